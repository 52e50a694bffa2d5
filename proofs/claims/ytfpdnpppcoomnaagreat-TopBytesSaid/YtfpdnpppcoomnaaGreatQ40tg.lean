/- Words and laws that the proofs of this seat share, part 7 of 10. No condition. -/
import Derived.Test.YtfpdnpppcoomnaaGreatQ40tf
set_option linter.unusedVariables false
set_option linter.unusedSimpArgs false
set_option linter.defProp false
set_option maxRecDepth 100000
set_option maxHeartbeats 16000000
namespace Go.Proofs.YtfpdnpppcoomnaaGreat
open Go.RowKit Go.PBYtfpdnpppcoomnaaGreat
theorem mult_walk (k p cb:List UInt8) (x g one:List Int) (F:Nat→List Int × List Int × List Int × List Int) (res:List UInt8) (hk:k.length=32) (hp:p.length=32)
 (hcb:clampB k=cb) (hx:ofL p=x) (hg:ofL gK=g) (hone:ofL (smallB 1)=one) 
 (ok:∀ j,all4 okE (F j)) (F0:F 0=(one,x,List.replicate 16 0,one)) (Fs:∀ j,F (j+1)=sw (sbit k (254-j)) (stepC addL subL mulL x g (sw (sbit k (254-j)) (F j)))) (hres:keyL (mulL (F 255).1 (invL (F 255).2.2.1))=res) (w:World) :
 Calls Tryz.prog 19 #[.agg (bys k).toArray,.agg (bys p).toArray] w fun e w'=>e=.returned (.agg (bys res).toArray)∧Kept [] w w':=by
 have hcl:cb.length=32:=by rw [← hcb];exact (clampB_length k).trans hk
 have hbit:∀ i,i≤254→((cb.getD (i / 8) 0).toNat / 2^(i % 8) % 2==1)=sbit k i:=fun i hi=>by rw [← hcb];exact clampB_bit hk hi
 have ox:okE x:=by rw [← hx];exact ofL_okE hp
 have og:okE g:=by rw [← hg];exact ofL_okE gK_length
 have oo:okE one:=by rw [← hone];exact ofL_okE (smallB_length 1)
 have lx:=ox.1
 have lg:=og.1
 have lo:=oo.1
 have lres:res.length=32:=by rw [← hres];exact keyL_length _
 refine enter (n:=110) (R:=fun e L=>e=.returned (.agg (bys res).toArray)) [.agg (bys k).toArray,.agg (bys p).toArray] F19 rfl rfl rfl (St.refl w) ?_ (fun e w' L' h H=>⟨h,H.kept⟩)
 refine VC_seq<|VC_region<|l_boxA rfl rfl<|fun b2=>l_boxA rfl rfl<|fun b3=>l_allocA zr33 rfl<|fun b4=>vl_nil<|th_n<|VC_seq<|VC_region<|vl_v (q_loads 2 U33 rfl rfl rfl sz33 (by simp only [zb,zu,zw,zi,za];omega)) rfl<|vl_v (q_callV F55 rfl rfl rfl (fun w1 H1=>hcb ▸ clamped_calls k hk w1)) rfl<|l_allocA zr33 rfl ?_
 intro b5
 refine l_storeA 0 rfl rfl rfl sz33 (by simp only [zb,zu,zw,zi,za];omega) (by with_reducible first | exact bys_one _ | exact u32s_one _ | exact u64s_one _ | exact i64s_one _ | exact n64s_one _ | assumption) (by simp only [zs,zr,zm,za,zb,zu,zw,zi,zt,zd,zc,zn, *]<;>first | done | omega) ?_
 simp only [List.set_cons_zero,List.set_cons_succ]
 refine vl_nil<|th_n<|VC_seq<|VC_region<|vl_v (q_loads 2 U33 rfl rfl rfl sz33 (by simp only [zb,zu,zw,zi,za];omega)) rfl<|vl_v (q_callV F56 rfl rfl rfl (fun w1 H1=>hx ▸ of_calls p hp w1)) rfl<|vl_v (q_build (c':=bys gK) rfl (by kernel_rfl)) rfl<|vl_v (q_callV F56 rfl rfl rfl (fun w1 H1=>hg ▸ of_calls gK gK_length w1)) rfl<|l_allocA zr120 rfl<|fun b6=>l_allocA zr120 rfl<|fun b7=>?_
 refine l_storeA 1 rfl rfl rfl sz120 (by simp only [zb,zu,zw,zi,za];omega) (by with_reducible first | exact bys_one _ | exact u32s_one _ | exact u64s_one _ | exact i64s_one _ | exact n64s_one _ | assumption) (by simp only [zs,zr,zm,za,zb,zu,zw,zi,zt,zd,zc,zn, *]<;>first | done | omega) ?_
 simp only [List.set_cons_zero,List.set_cons_succ]
 refine l_storeA 0 rfl rfl rfl sz120 (by simp only [zb,zu,zw,zi,za];omega) (by with_reducible first | exact bys_one _ | exact u32s_one _ | exact u64s_one _ | exact i64s_one _ | exact n64s_one _ | assumption) (by simp only [zs,zr,zm,za,zb,zu,zw,zi,zt,zd,zc,zn, *]<;>first | done | omega) ?_
 simp only [List.set_cons_zero,List.set_cons_succ]
 refine vl_nil<|th_n<|VC_seq<|VC_region<|vl_v (q_build (c':=bys (smallB 1)) rfl (by kernel_rfl)) rfl<|vl_v (q_callV F56 rfl rfl rfl (fun w1 H1=>hone ▸ of_calls (smallB 1) (smallB_length 1) w1)) rfl<|l_allocA zr120 rfl<|fun b8=>?_
 refine l_storeA 0 rfl rfl rfl sz120 (by simp only [zb,zu,zw,zi,za];omega) (by with_reducible first | exact bys_one _ | exact u32s_one _ | exact u64s_one _ | exact i64s_one _ | exact n64s_one _ | assumption) (by simp only [zs,zr,zm,za,zb,zu,zw,zi,zt,zd,zc,zn, *]<;>first | done | omega) ?_
 simp only [List.set_cons_zero,List.set_cons_succ]
 refine vl_nil<|th_n<|VC_seq<|VC_drawQ 8 7 [[],[],[],[],[],[],[3,0,4,5],[4,1,6,0,3,5],[5,2,7,0,1,3,4,6]] [[],[],[],[],[],[],[0,3,4,5],[0,1,3,4,5,6],[0,1,2,3,4,5,6,7]] [([],[],[],[0,1,2,3,4,5,6],[]),([],[],[],[0,1,2,3,4,5,6],[]),([],[],[],[0,1,2,3,4,5,6],[]),([],[],[],[0,1,2,3,4,5,6],[]),([],[],[],[0,1,2,3,4,5,6],[]),([],[],[],[0,1,2,3,4,5,6],[]),([0,3,4,5],[],[3],[0,1,2,3,4,5,6],[0,4,5]),([0,1,3,4,5,6],[],[4],[0,1,2,3,4,5,6],[0,1,5,6])] [0,1,2,3,4,5,6] [0,1,2,5,6,7] rfl rfl (by kernel_rfl)<|qp_v (fun xs gs hx=>q_loads 0 U120 rfl rfl rfl sz120 (by simp only [zb,zu,zw,zi,za];omega))<|qp_v (fun xs gs hx=>q_loads 2 U120 rfl rfl rfl sz120 (by simp only [zb,zu,zw,zi,za];omega))<|qp_v (fun xs gs hx=>q_loads 0 U120 rfl rfl rfl sz120 (by simp only [zb,zu,zw,zi,za];omega))<|qp_a (fun xs gs hx=>q_alloc zr120 rfl)<|qp_a (fun xs gs hx=>q_alloc zr120 rfl)<|qp_a (fun xs gs hx=>q_alloc zr120 rfl) ?_
 refine qp_storeN (fun xs gs hx=>rfl) (fun xs gs hx=>hx.1 rfl) (fun xs gs hx=>rfl) (fun xs gs hx=>List.append_nil _) sz120 (fun xs gs hx=>by first | omega | with_reducible assumption | (simp only [zb,zu,zw,zi,za];omega) | (simp only [zs,zr,zm,za,zb,zu,zw,zi,zt,zd,zc,zn, *]<;>first | done | omega) | rfl) (fun xs gs hx=>by first | (with_reducible first | exact bys_one _ | exact u32s_one _ | exact u64s_one _ | exact i64s_one _ | exact n64s_one _ | assumption) | exact bys_one _ | exact u32s_one _ | exact u64s_one _ | exact i64s_one _ | exact one_all rfl | (refine app_one ?_ ?_<;>first | exact bys_one _ | exact one_all rfl | (simp;done))) (fun xs gs hx=>by first | omega | with_reducible assumption | (simp only [zb,zu,zw,zi,za];omega) | (simp only [zs,zr,zm,za,zb,zu,zw,zi,zt,zd,zc,zn, *]<;>first | done | omega) | rfl) ?_
 refine qp_storeN (fun xs gs hx=>rfl) (fun xs gs hx=>hx.2.1 rfl) (fun xs gs hx=>rfl) (fun xs gs hx=>List.append_nil _) sz120 (fun xs gs hx=>by first | omega | with_reducible assumption | (simp only [zb,zu,zw,zi,za];omega) | (simp only [zs,zr,zm,za,zb,zu,zw,zi,zt,zd,zc,zn, *]<;>first | done | omega) | rfl) (fun xs gs hx=>by first | (with_reducible first | exact bys_one _ | exact u32s_one _ | exact u64s_one _ | exact i64s_one _ | exact n64s_one _ | assumption) | exact bys_one _ | exact u32s_one _ | exact u64s_one _ | exact i64s_one _ | exact one_all rfl | (refine app_one ?_ ?_<;>first | exact bys_one _ | exact one_all rfl | (simp;done))) (fun xs gs hx=>by first | omega | with_reducible assumption | (simp only [zb,zu,zw,zi,za];omega) | (simp only [zs,zr,zm,za,zb,zu,zw,zi,zt,zd,zc,zn, *]<;>first | done | omega) | rfl) ?_
 refine qp_end<|fun xs gs hx=>?_
 obtain ⟨⟨b9,e9⟩,⟨b10,e10⟩,⟨b11,e11⟩,_,_,_⟩:=hx
 simp only [selI,ownsA,List.contains_cons,List.contains_nil,Nat.reduceBEq,Nat.reduceAdd,Bool.or_false,Bool.or_true,Bool.false_or,Bool.true_or,mask,nRow,nBlk,nRowT,tupAt_0,tupAt_1,List.append_assoc,List.nil_append,List.append_nil,List.cons_append,List.singleton_append,e9,e10,e11]
 refine VL.keep (kp [0,1,2,3,4,5,6,7,8,35,9,10,11] rfl)<|l_storeA 7 rfl rfl rfl sz120 (by simp only [zb,zu,zw,zi,za];omega) (by with_reducible first | exact bys_one _ | exact u32s_one _ | exact u64s_one _ | exact i64s_one _ | exact n64s_one _ | assumption) (by rfl) ?_
 simp only [List.set_cons_zero,List.set_cons_succ]
 refine vl_nil<|qn_n<|th_n<|VC_seq<|VC_region<|l_allocA zr120 rfl<|fun b12=>vl_nil<|th_n<|VC_seq<|VC_region<|vl_v (q_makeFunc rfl) rfl<|vl_v (q_assign rfl) rfl<|vl_nil ?_
 refine th_n<|VC_seq<|VC_seq<|VC_region<|vl_v (q_assign rfl) rfl<|vl_nil<|th_n<|VC_block<|VC_loop (ι:=Nat) (fun j=>j≤255) (fun j=>[(4,vP b4 0),(5,vP b5 0),(6,vP b6 0),(7,vP b7 0),(9,vP b9 0),(10,vP b10 0),(11,vP b11 0),(12,vP b12 0),(13,.func (.func 57) #[] #[vP b10 0,vP b9 0,vP b11 0,vP b12 0]),(14,vI (254-(j:Int)))]) (fun j=>[.blk b9 120 (i64s (F j).1),.blk b10 120 (i64s (F j).2.1),.blk b12 120 (i64s (F j).2.2.1),.blk b11 120 (i64s (F j).2.2.2),.blk b7 120 (i64s g),.blk b6 120 (i64s x),.blk b5 33 (bys cb),.blk b4 33 (bys (List.replicate 32 0)),.blk b8 120 (i64s one),.blk b3 33 (bys p),.blk b2 33 (bys k)]) (fun j=>255-j) 0 (by omega) (kp [4,5,6,7,9,10,11,12,13,14] rfl) (fun w' H=>by rw [F0];exact H.pick (ks:=[9,10,0,8,2,3,4,5,1,6,7]) (by decide) rfl) ?_
 rintro j hp
 have okj:=ok j
 obtain ⟨⟨ua0,ub0,uc0,ud0⟩,hFj⟩:∃ r,r=F j:=⟨_,rfl⟩
 rw [← hFj] at okj ⊢
 obtain ⟨oa0,ob0,oc0,od0⟩:=okj
 dsimp only at oa0 ob0 oc0 od0 ⊢
 have la0:=oa0.1
 have lb0:=ob0.1
 have lc0:=oc0.1
 have ld0:=od0.1
 refine VC_seq<|VC_seq<|VC_region<|vl_v (q_move rfl) rfl<|vl_v (q_geq_k (q:=0) U3 rfl rfl) rfl<|vl_nil<|th_n<|VC_cond rfl (fun ht38=>?_) (fun ht38=>?_)
 ·skip
  have ht38:=of_decide_eq_true ht38
  obtain ⟨i,hi⟩:∃ i:Nat,i=254-j:=⟨_,rfl⟩
  have hij:(254-(j:Int))=(i:Int):=by omega
  have hi254:i≤254:=by omega
  rw [hij]
  refine VC_skip<|th_n<|VC_seq<|VC_block<|VC_seq<|VC_region<|vl_v (q_move rfl) rfl<|vl_v (q_quo_n (q:=8) rfl rfl (by omega) (by omega)) rfl<|vl_v (q_idxA U33 sz5 rfl rfl (by omega) (r:=_) (by rw [Nat.mul_one,Nat.zero_add])) rfl<|vl_v (q_load 6 U5 rfl rfl rfl (bys_at (by omega))) rfl<|vl_v (q_move rfl) rfl<|vl_v (q_rem_n (q:=8) rfl rfl (by omega)) rfl ?_
  refine vl_v (q_shr_u8 rfl rfl) rfl<|vl_v (q_and_u8 (q:=UInt8.ofNat 1) rfl rfl) rfl<|vl_v (q_as (v:=.bool (sbit k i)) (q_eql_k (q:=1) U5 rfl rfl) (by rw [← hbit i hi254,← bit_of _ _ (Nat.mod_lt _ (by decide))];rfl)) rfl<|vl_v (q_assign rfl) rfl<|vl_nil<|th_n<|VC_seq<|VC_region<|vl_v (q_move rfl) rfl<|vl_v (q_move rfl) rfl<|l_clo (F:=fun v L'=>v=.tuple #[]∧L'=swL 120 b9 b10 b12 b11 (sw (sbit k i) (ua0,ub0,uc0,ud0))++[.blk b7 120 (i64s g),.blk b6 120 (i64s x),.blk b5 33 (bys cb),.blk b4 33 (bys (List.replicate 32 0)),.blk b8 120 (i64s one),.blk b3 33 (bys p),.blk b2 33 (bys k)]) rfl F57 rfl rfl rfl (fun w1 H1=>(swap_calls (sbit k i) ua0 ub0 uc0 ud0 la0 lb0 lc0 ld0 b9 b10 b12 b11 w1 H1).mono fun e w' h=>⟨_,_,h.1,⟨rfl,rfl⟩,h.2⟩) rfl ?_
  rintro v L' ⟨rfl,rfl⟩
  obtain ⟨⟨ua,ub,uc,ud⟩,hq1⟩:∃ r,r=sw (sbit k i) (ua0,ub0,uc0,ud0):=⟨_,rfl⟩
  rw [← hq1]
  obtain ⟨oa,ob,oc,od⟩:all4 okE (ua,ub,uc,ud):=by rw [hq1];exact sw_all _ (all4_mk oa0 ob0 oc0 od0)
  simp only [swL,List.cons_append,List.nil_append] at oa ob oc od ⊢
  have la:=oa.1
  have lb:=ob.1
  have lc:=oc.1
  have ld:=od.1
  refine vl_nil<|th_n<|VC_seq ?_
  obtain ⟨e,he⟩:∃ r,addL ua uc=r:=⟨_,rfl⟩
  have oe:okE e:=by rw [← he];exact addL_okE oa oc
  have le:=oe.1
  obtain ⟨f,hf⟩:∃ r,subL ua uc=r:=⟨_,rfl⟩
  have of:okE f:=by rw [← hf];exact subL_okE oa oc
  have lf:=of.1
  refine VC_drawM 8 [[],[],[0,1],[],[],[3,4,2],[],[],[6,2,5,0,1,7],[7,5,8,0,1,2,3,4,6]] [[],[],[0,1],[],[],[0,1,2,3,4],[],[],[0,1,2,3,4,5,6,7],[0,1,2,3,4,5,6,7,8]] rfl (by kernel_rfl)<|qm_v (fun xs hx=>q_loads 0 U120 rfl rfl rfl sz120 (by simp only [zb,zu,zw,zi,za];omega))<|qm_v (fun xs hx=>q_loads 2 U120 rfl rfl rfl sz120 (by simp only [zb,zu,zw,zi,za];omega))<|qm_v (fun xs hx=>q_callV F58 rfl rfl rfl (fun w1 H1=>he ▸ add_calls ua uc oa oc w1))<|qm_v (fun xs hx=>q_loads 0 U120 rfl rfl rfl sz120 (by simp only [zb,zu,zw,zi,za];omega))<|qm_v (fun xs hx=>q_loads 2 U120 rfl rfl rfl sz120 (by simp only [zb,zu,zw,zi,za];omega))<|qm_v (fun xs hx=>q_callV F59 rfl rfl rfl (fun w1 H1=>hf ▸ sub_calls ua uc oa oc w1))<|qm_a (fun xs hx=>q_alloc zr120 rfl)<|qm_a (fun xs hx=>q_alloc zr120 rfl)<|qm_end<|fun xs hx=>?_
  obtain ⟨⟨b16,e16⟩,⟨b17,e17⟩,_⟩:=hx
  simp only [e16]
  simp only [e17]
  simp only [resT,nRow,nBlk,nRowT,tupAt_0,List.append_assoc,List.nil_append,List.append_nil,List.cons_append,List.singleton_append,e16,e17]
  refine VL.keep (kp [4,5,6,7,9,10,11,12,13,14,38,15,55,58,16,17] rfl)<|l_storeA 0 rfl rfl rfl sz120 (by simp only [zb,zu,zw,zi,za];omega) (by with_reducible first | exact bys_one _ | exact u32s_one _ | exact u64s_one _ | exact i64s_one _ | exact n64s_one _ | assumption) (by rfl) ?_
  simp only [List.set_cons_zero,List.set_cons_succ]
  refine l_storeA 1 rfl rfl rfl sz120 (by simp only [zb,zu,zw,zi,za];omega) (by with_reducible first | exact bys_one _ | exact u32s_one _ | exact u64s_one _ | exact i64s_one _ | exact n64s_one _ | assumption) (by rfl) ?_
  simp only [List.set_cons_zero,List.set_cons_succ]
  refine vl_nil<|qn_n<|th_n<|VC_seq ?_
  obtain ⟨s1,hs1⟩:∃ r,subL ub ud=r:=⟨_,rfl⟩
  have os1:okE s1:=by rw [← hs1];exact subL_okE ob od
  have ls1:=os1.1
  obtain ⟨s2,hs2⟩:∃ r,addL ub ud=r:=⟨_,rfl⟩
  have os2:okE s2:=by rw [← hs2];exact addL_okE ob od
  have ls2:=os2.1
  obtain ⟨y,hy⟩:∃ r,mulL s1 e=r:=⟨_,rfl⟩
  have oy:okE y:=by rw [← hy];exact mulL_okE os1 oe
  have ly:=oy.1
  obtain ⟨zz,hzz⟩:∃ r,mulL s2 f=r:=⟨_,rfl⟩
  have ozz:okE zz:=by rw [← hzz];exact mulL_okE os2 of
  have lzz:=ozz.1
  refine VC_drawM 12 [[],[],[0,1],[],[2,3],[],[],[5,6,4],[],[7,8],[],[],[10,4,9,0,1,2,3,11],[11,9,12,0,1,2,3,4,5,6,7,8,10]] [[],[],[0,1],[],[0,1,2,3],[],[],[0,1,2,3,4,5,6],[],[0,1,2,3,4,5,6,7,8],[],[],[0,1,2,3,4,5,6,7,8,9,10,11],[0,1,2,3,4,5,6,7,8,9,10,11,12]] rfl (by kernel_rfl)<|qm_v (fun xs hx=>q_loads 3 U120 rfl rfl rfl sz120 (by simp only [zb,zu,zw,zi,za];omega))<|qm_v (fun xs hx=>q_loads 5 U120 rfl rfl rfl sz120 (by simp only [zb,zu,zw,zi,za];omega))<|qm_v (fun xs hx=>q_callV F59 rfl rfl rfl (fun w1 H1=>hs1 ▸ sub_calls ub ud ob od w1))<|qm_v (fun xs hx=>q_loads 0 U120 rfl rfl rfl sz120 (by simp only [zb,zu,zw,zi,za];omega))<|qm_v (fun xs hx=>q_callV F60 rfl rfl rfl (fun w1 H1=>hy ▸ mul_calls s1 e os1 oe w1))<|qm_v (fun xs hx=>q_loads 3 U120 rfl rfl rfl sz120 (by simp only [zb,zu,zw,zi,za];omega))<|qm_v (fun xs hx=>q_loads 5 U120 rfl rfl rfl sz120 (by simp only [zb,zu,zw,zi,za];omega))<|qm_v (fun xs hx=>q_callV F58 rfl rfl rfl (fun w1 H1=>hs2 ▸ add_calls ub ud ob od w1))<|qm_v (fun xs hx=>q_loads 1 U120 rfl rfl rfl sz120 (by simp only [zb,zu,zw,zi,za];omega))<|qm_v (fun xs hx=>q_callV F60 rfl rfl rfl (fun w1 H1=>hzz ▸ mul_calls s2 f os2 of w1))<|qm_a (fun xs hx=>q_alloc zr120 rfl) ?_
  refine qm_a (fun xs hx=>q_alloc zr120 rfl)<|qm_end<|fun xs hx=>?_
  obtain ⟨⟨b18,e18⟩,⟨b19,e19⟩,_⟩:=hx
  simp only [e18]
  simp only [e19]
  simp only [resT,nRow,nBlk,nRowT,tupAt_0,List.append_assoc,List.nil_append,List.append_nil,List.cons_append,List.singleton_append,e18,e19]
  refine VL.keep (kp [4,5,6,7,9,10,11,12,13,14,38,15,16,17,63,68,18,19] rfl)<|l_storeA 0 rfl rfl rfl sz120 (by simp only [zb,zu,zw,zi,za];omega) (by with_reducible first | exact bys_one _ | exact u32s_one _ | exact u64s_one _ | exact i64s_one _ | exact n64s_one _ | assumption) (by rfl) ?_
  simp only [List.set_cons_zero,List.set_cons_succ]
  refine l_storeA 1 rfl rfl rfl sz120 (by simp only [zb,zu,zw,zi,za];omega) (by with_reducible first | exact bys_one _ | exact u32s_one _ | exact u64s_one _ | exact i64s_one _ | exact n64s_one _ | assumption) (by rfl) ?_
  simp only [List.set_cons_zero,List.set_cons_succ]
  refine vl_nil<|qn_n<|th_n<|VC_seq ?_
  obtain ⟨u,hu⟩:∃ r,mulL e e=r:=⟨_,rfl⟩
  have ou:okE u:=by rw [← hu];exact mulL_okE oe oe
  have lu:=ou.1
  obtain ⟨v,hv⟩:∃ r,mulL f f=r:=⟨_,rfl⟩
  have ov:okE v:=by rw [← hv];exact mulL_okE of of
  have lv:=ov.1
  refine VC_drawM 8 [[],[],[0,1],[],[],[3,4,2],[],[],[6,2,5,0,1,7],[7,5,8,0,1,2,3,4,6]] [[],[],[0,1],[],[],[0,1,2,3,4],[],[],[0,1,2,3,4,5,6,7],[0,1,2,3,4,5,6,7,8]] rfl (by kernel_rfl)<|qm_v (fun xs hx=>q_loads 2 U120 rfl rfl rfl sz120 (by simp only [zb,zu,zw,zi,za];omega))<|qm_v (fun xs hx=>q_loads 2 U120 rfl rfl rfl sz120 (by simp only [zb,zu,zw,zi,za];omega))<|qm_v (fun xs hx=>q_callV F60 rfl rfl rfl (fun w1 H1=>hu ▸ mul_calls e e oe oe w1))<|qm_v (fun xs hx=>q_loads 3 U120 rfl rfl rfl sz120 (by simp only [zb,zu,zw,zi,za];omega))<|qm_v (fun xs hx=>q_loads 3 U120 rfl rfl rfl sz120 (by simp only [zb,zu,zw,zi,za];omega))<|qm_v (fun xs hx=>q_callV F60 rfl rfl rfl (fun w1 H1=>hv ▸ mul_calls f f of of w1))<|qm_a (fun xs hx=>q_alloc zr120 rfl)<|qm_a (fun xs hx=>q_alloc zr120 rfl)<|qm_end<|fun xs hx=>?_
  obtain ⟨⟨b20,e20⟩,⟨b21,e21⟩,_⟩:=hx
  simp only [e20]
  simp only [e21]
  simp only [resT,nRow,nBlk,nRowT,tupAt_0,List.append_assoc,List.nil_append,List.append_nil,List.cons_append,List.singleton_append,e20,e21]
  refine VL.keep (kp [4,5,6,7,9,10,11,12,13,14,38,15,16,17,18,19,71,74,20,21] rfl)<|l_storeA 0 rfl rfl rfl sz120 (by simp only [zb,zu,zw,zi,za];omega) (by with_reducible first | exact bys_one _ | exact u32s_one _ | exact u64s_one _ | exact i64s_one _ | exact n64s_one _ | assumption) (by rfl) ?_
  simp only [List.set_cons_zero,List.set_cons_succ]
  refine l_storeA 1 rfl rfl rfl sz120 (by simp only [zb,zu,zw,zi,za];omega) (by with_reducible first | exact bys_one _ | exact u32s_one _ | exact u64s_one _ | exact i64s_one _ | exact n64s_one _ | assumption) (by rfl) ?_
  simp only [List.set_cons_zero,List.set_cons_succ]
  refine vl_nil<|qn_n<|th_n<|VC_seq ?_
  obtain ⟨ww,hww⟩:∃ r,subL u v=r:=⟨_,rfl⟩
  have oww:okE ww:=by rw [← hww];exact subL_okE ou ov
  have lww:=oww.1
  refine VC_region<|vl_v (q_loads 0 U120 rfl rfl rfl sz120 (by simp only [zb,zu,zw,zi,za];omega)) rfl<|vl_v (q_loads 1 U120 rfl rfl rfl sz120 (by simp only [zb,zu,zw,zi,za];omega)) rfl<|vl_v (q_callV F59 rfl rfl rfl (fun w1 H1=>hww ▸ sub_calls u v ou ov w1)) rfl<|l_allocA zr120 rfl<|fun b22=>?_
  refine l_storeA 0 rfl rfl rfl sz120 (by simp only [zb,zu,zw,zi,za];omega) (by with_reducible first | exact bys_one _ | exact u32s_one _ | exact u64s_one _ | exact i64s_one _ | exact n64s_one _ | assumption) (by simp only [zs,zr,zm,za,zb,zu,zw,zi,zt,zd,zc,zn, *]<;>first | done | omega) ?_
  simp only [List.set_cons_zero,List.set_cons_succ]
  refine vl_nil<|th_n<|VC_seq ?_
  obtain ⟨mo,hmo⟩:∃ r,addL y zz=r:=⟨_,rfl⟩
  have omo:okE mo:=by rw [← hmo];exact addL_okE oy ozz
  have lmo:=omo.1
  obtain ⟨ls,hls⟩:∃ r,subL y zz=r:=⟨_,rfl⟩
  have ols:okE ls:=by rw [← hls];exact subL_okE oy ozz
  have lls:=ols.1
  refine VC_drawM 8 [[],[],[0,1],[],[],[3,4,2],[],[],[6,2,5,0,1,7],[7,5,8,0,1,2,3,4,6]] [[],[],[0,1],[],[],[0,1,2,3,4],[],[],[0,1,2,3,4,5,6,7],[0,1,2,3,4,5,6,7,8]] rfl (by kernel_rfl)<|qm_v (fun xs hx=>q_loads 3 U120 rfl rfl rfl sz120 (by simp only [zb,zu,zw,zi,za];omega))<|qm_v (fun xs hx=>q_loads 4 U120 rfl rfl rfl sz120 (by simp only [zb,zu,zw,zi,za];omega))<|qm_v (fun xs hx=>q_callV F58 rfl rfl rfl (fun w1 H1=>hmo ▸ add_calls y zz oy ozz w1))<|qm_v (fun xs hx=>q_loads 3 U120 rfl rfl rfl sz120 (by simp only [zb,zu,zw,zi,za];omega))<|qm_v (fun xs hx=>q_loads 4 U120 rfl rfl rfl sz120 (by simp only [zb,zu,zw,zi,za];omega))<|qm_v (fun xs hx=>q_callV F59 rfl rfl rfl (fun w1 H1=>hls ▸ sub_calls y zz oy ozz w1))<|qm_a (fun xs hx=>q_alloc zr120 rfl)<|qm_a (fun xs hx=>q_alloc zr120 rfl)<|qm_end<|fun xs hx=>?_
  obtain ⟨⟨b23,e23⟩,⟨b24,e24⟩,_⟩:=hx
  simp only [e23]
  simp only [e24]
  simp only [resT,nRow,nBlk,nRowT,tupAt_0,List.append_assoc,List.nil_append,List.append_nil,List.cons_append,List.singleton_append,e23,e24]
  refine VL.keep (kp [4,5,6,7,9,10,11,12,13,14,38,15,16,17,18,19,20,21,22,80,83,23,24] rfl)<|l_storeA 0 rfl rfl rfl sz120 (by simp only [zb,zu,zw,zi,za];omega) (by with_reducible first | exact bys_one _ | exact u32s_one _ | exact u64s_one _ | exact i64s_one _ | exact n64s_one _ | assumption) (by rfl) ?_
  simp only [List.set_cons_zero,List.set_cons_succ]
  refine l_storeA 1 rfl rfl rfl sz120 (by simp only [zb,zu,zw,zi,za];omega) (by with_reducible first | exact bys_one _ | exact u32s_one _ | exact u64s_one _ | exact i64s_one _ | exact n64s_one _ | assumption) (by rfl) ?_
  simp only [List.set_cons_zero,List.set_cons_succ]
  refine vl_nil<|qn_n<|th_n<|VC_seq ?_
  obtain ⟨na,hna⟩:∃ r,mulL u v=r:=⟨_,rfl⟩
  have ona:okE na:=by rw [← hna];exact mulL_okE ou ov
  have lna:=ona.1
  obtain ⟨g1,hg1⟩:∃ r,mulL g ww=r:=⟨_,rfl⟩
  have og1:okE g1:=by rw [← hg1];exact mulL_okE og oww
  have lg1:=og1.1
  obtain ⟨g2,hg2⟩:∃ r,addL u g1=r:=⟨_,rfl⟩
  have og2:okE g2:=by rw [← hg2];exact addL_okE ou og1
  have lg2:=og2.1
  obtain ⟨nc,hnc⟩:∃ r,mulL ww g2=r:=⟨_,rfl⟩
  have onc:okE nc:=by rw [← hnc];exact mulL_okE oww og2
  have lnc:=onc.1
  refine VC_drawV 9 [[],[],[0,1],[],[],[],[],[5,6,2],[4,7],[3,8],[2,9,0,1],[9,10,0,1,2,3,4,5,6,7,8]] [[],[],[0,1],[],[],[],[],[0,1,2,5,6],[0,1,2,4,5,6,7],[0,1,2,3,4,5,6,7,8],[0,1,2,3,4,5,6,7,8,9],[0,1,2,3,4,5,6,7,8,9,10]] rfl (by kernel_rfl)<|qv_v (q_loads 3 U120 rfl rfl rfl sz120 (by simp only [zb,zu,zw,zi,za];omega))<|qv_v (q_loads 4 U120 rfl rfl rfl sz120 (by simp only [zb,zu,zw,zi,za];omega))<|qv_v (q_callV F60 rfl rfl rfl (fun w1 H1=>hna ▸ mul_calls u v ou ov w1))<|qv_v (q_loads 2 U120 rfl rfl rfl sz120 (by simp only [zb,zu,zw,zi,za];omega))<|qv_v (q_loads 3 U120 rfl rfl rfl sz120 (by simp only [zb,zu,zw,zi,za];omega))<|qv_v (q_loads 13 U120 rfl rfl rfl sz120 (by simp only [zb,zu,zw,zi,za];omega))<|qv_v (q_loads 2 U120 rfl rfl rfl sz120 (by simp only [zb,zu,zw,zi,za];omega))<|qv_v (q_callV F60 rfl rfl rfl (fun w1 H1=>hg1 ▸ mul_calls g ww og oww w1))<|qv_v (q_callV F58 rfl rfl rfl (fun w1 H1=>hg2 ▸ add_calls u g1 ou og1 w1))<|qv_end<|VL.keep (kp [4,5,6,7,9,10,11,12,13,14,38,15,16,17,18,19,20,21,22,23,24,86,87,92] rfl) ?_
  refine vl_v (q_callV F60 rfl rfl rfl (fun w1 H1=>hnc ▸ mul_calls ww g2 oww og2 w1)) rfl<|l_storeA 9 rfl rfl rfl sz120 (by simp only [zb,zu,zw,zi,za];omega) (by with_reducible first | exact bys_one _ | exact u32s_one _ | exact u64s_one _ | exact i64s_one _ | exact n64s_one _ | assumption) (by simp only [zb,zu,zw,zi,za];omega) ?_
  simp only [List.set_cons_zero,List.set_cons_succ]
  refine l_storeA 11 rfl rfl rfl sz120 (by simp only [zb,zu,zw,zi,za];omega) (by with_reducible first | exact bys_one _ | exact u32s_one _ | exact u64s_one _ | exact i64s_one _ | exact n64s_one _ | assumption) (by simp only [zb,zu,zw,zi,za];omega) ?_
  simp only [List.set_cons_zero,List.set_cons_succ]
  refine vl_nil<|qn_n<|th_n<|VC_seq ?_
  obtain ⟨nb,hnb⟩:∃ r,mulL mo mo=r:=⟨_,rfl⟩
  have onb:okE nb:=by rw [← hnb];exact mulL_okE omo omo
  have lnb:=onb.1
  obtain ⟨l2,hl2⟩:∃ r,mulL ls ls=r:=⟨_,rfl⟩
  have ol2:okE l2:=by rw [← hl2];exact mulL_okE ols ols
  have ll2:=ol2.1
  obtain ⟨nd,hnd⟩:∃ r,mulL x l2=r:=⟨_,rfl⟩
  have ond:okE nd:=by rw [← hnd];exact mulL_okE ox ol2
  have lnd:=ond.1
  refine VC_drawV 7 [[],[],[0,1],[],[],[],[4,5,2],[3,6],[2,7,0,1],[7,8,0,1,2,3,4,5,6]] [[],[],[0,1],[],[],[],[0,1,2,4,5],[0,1,2,3,4,5,6],[0,1,2,3,4,5,6,7],[0,1,2,3,4,5,6,7,8]] rfl (by kernel_rfl)<|qv_v (q_loads 0 U120 rfl rfl rfl sz120 (by simp only [zb,zu,zw,zi,za];omega))<|qv_v (q_loads 0 U120 rfl rfl rfl sz120 (by simp only [zb,zu,zw,zi,za];omega))<|qv_v (q_callV F60 rfl rfl rfl (fun w1 H1=>hnb ▸ mul_calls mo mo omo omo w1))<|qv_v (q_loads 14 U120 rfl rfl rfl sz120 (by simp only [zb,zu,zw,zi,za];omega))<|qv_v (q_loads 1 U120 rfl rfl rfl sz120 (by simp only [zb,zu,zw,zi,za];omega))<|qv_v (q_loads 1 U120 rfl rfl rfl sz120 (by simp only [zb,zu,zw,zi,za];omega))<|qv_v (q_callV F60 rfl rfl rfl (fun w1 H1=>hl2 ▸ mul_calls ls ls ols ols w1))<|qv_end<|VL.keep (kp [4,5,6,7,9,10,11,12,13,14,38,15,16,17,18,19,20,21,22,23,24,96,97,100] rfl)<|vl_v (q_callV F60 rfl rfl rfl (fun w1 H1=>hnd ▸ mul_calls x l2 ox ol2 w1)) rfl<|l_storeA 10 rfl rfl rfl sz120 (by simp only [zb,zu,zw,zi,za];omega) (by with_reducible first | exact bys_one _ | exact u32s_one _ | exact u64s_one _ | exact i64s_one _ | exact n64s_one _ | assumption) (by simp only [zb,zu,zw,zi,za];omega) ?_
  simp only [List.set_cons_zero,List.set_cons_succ]
  refine l_storeA 12 rfl rfl rfl sz120 (by simp only [zb,zu,zw,zi,za];omega) (by with_reducible first | exact bys_one _ | exact u32s_one _ | exact u64s_one _ | exact i64s_one _ | exact n64s_one _ | assumption) (by simp only [zb,zu,zw,zi,za];omega) ?_
  simp only [List.set_cons_zero,List.set_cons_succ]
  refine vl_nil<|qn_n<|th_n ?_
  have hst:stepC addL subL mulL x g (ua,ub,uc,ud)=(na,nb,nc,nd):=by rw [← hna,← hnb,← hnc,← hnd,← hg2,← hg1,← hl2,← hww,← hmo,← hls,← hu,← hv,← hy,← hzz,← hs1,← hs2,← he,← hf];rfl
  have hnext:F (j+1)=sw (sbit k i) (na,nb,nc,nd):=by rw [Fs j,← hi,← hFj,← hq1,hst]
  refine VC_pickL (ks:=[9,10,11,12,13,14,15,16,17,18,19]) (by decide) rfl<|VC_region<|vl_v (q_move rfl) rfl<|vl_v (q_move rfl) rfl<|l_clo (F:=fun v L'=>v=.tuple #[]∧L'=swL 120 b9 b10 b12 b11 (sw (sbit k i) (na,nb,nc,nd))++[.blk b7 120 (i64s g),.blk b6 120 (i64s x),.blk b5 33 (bys cb),.blk b4 33 (bys (List.replicate 32 0)),.blk b8 120 (i64s one),.blk b3 33 (bys p),.blk b2 33 (bys k)]) rfl F57 rfl rfl rfl (fun w1 H1=>(swap_calls (sbit k i) na nb nc nd lna lnb lnc lnd b9 b10 b12 b11 w1 H1).mono fun e w' h=>⟨_,_,h.1,⟨rfl,rfl⟩,h.2⟩) rfl ?_
  rintro v L' ⟨rfl,rfl⟩
  rw [← hnext]
  simp only [swL,List.cons_append,List.nil_append]
  refine vl_nil<|bl_n<|th_n<|VC_region<|vl_v (q_move rfl) rfl<|vl_v (q_sub_i rfl rfl (by omega) (by omega)) rfl<|vl_v (q_assign rfl) rfl<|vl_nil<|th_n<|⟨j+1,by omega,by omega,(Sub.cons (s:=4) rfl (Sub.cons (s:=5) rfl (Sub.cons (s:=6) rfl (Sub.cons (s:=7) rfl (Sub.cons (s:=9) rfl (Sub.cons (s:=10) rfl (Sub.cons (s:=11) rfl (Sub.cons (s:=12) rfl (Sub.cons (s:=13) rfl (Sub.cons (s:=14) (congrArg (fun x:Int=>some (vI x)) (show ((i:Int)-1:Int)=254-((j+1:Nat):Int) by omega)) (Sub.nil _))))))))))),fun w H=>H⟩
 ·skip
  have ht38:=of_decide_eq_false ht38
  obtain rfl:j=255:=by omega
  rw [← hFj] at hres
  refine VC_exit<|(th_x (th_x (bl_xs (th_n ?_))))
  refine VC_seq ?_
  obtain ⟨ic,hic⟩:∃ r,invL uc0=r:=⟨_,rfl⟩
  have oic:okE ic:=by rw [← hic];exact invL_okE oc0
  have lic:=oic.1
  obtain ⟨m2,hm2⟩:∃ r,mulL ua0 ic=r:=⟨_,rfl⟩
  have om2:okE m2:=by rw [← hm2];exact mulL_okE oa0 oic
  have lm2:=om2.1
  have hr2:keyL m2=res:=by rw [← hm2,← hic];exact hres
  refine VC_drawV 3 [[],[],[1],[0,2],[3],[4,0,1,2,3]] [[],[],[1],[0,1,2],[0,1,2,3],[0,1,2,3,4]] rfl (by kernel_rfl)<|qv_v (q_loads 0 U120 rfl rfl rfl sz120 (by simp only [zb,zu,zw,zi,za];omega))<|qv_v (q_loads 2 U120 rfl rfl rfl sz120 (by simp only [zb,zu,zw,zi,za];omega))<|qv_v (q_callV F61 rfl rfl rfl (fun w1 H1=>hic ▸ inv_calls uc0 oc0 w1))<|qv_end<|VL.keep (kp [4,5,6,7,9,10,11,12,13,14,38,105,107] rfl)<|vl_v (q_callV F60 rfl rfl rfl (fun w1 H1=>hm2 ▸ mul_calls ua0 ic oa0 oic w1)) rfl<|vl_v (q_callV F62 rfl rfl rfl (fun w1 H1=>hr2 ▸ key_calls m2 om2 w1)) rfl ?_
  refine l_storeA 7 rfl rfl rfl sz33 (by simp only [zb,zu,zw,zi,za];omega) (by with_reducible first | exact bys_one _ | exact u32s_one _ | exact u64s_one _ | exact i64s_one _ | exact n64s_one _ | assumption) (by simp only [zs,zr,zm,za,zb,zu,zw,zi,zt,zd,zc,zn, *]<;>first | done | omega) ?_
  simp only [List.set_cons_zero,List.set_cons_succ]
  refine vl_nil<|qn_n<|th_n<|VC_ret ?_
  refine ⟨_,resC1 7 rfl U33 rfl rfl rfl sz33 (by simp only [zb,zu,zw,zi,za];omega),?_⟩
  exact rfl
theorem mult_calls (k p:List UInt8) (hk:k.length=32) (hp:p.length=32) (w:World) :
 Calls Tryz.prog 19 #[.agg (bys k).toArray,.agg (bys p).toArray] w fun e w'=>e=.returned (.agg (bys (kf (xm (sbit k) (lf p)))).toArray)∧Kept [] w w' :=
 mult_walk k p (clampB k) (ofL p) (ofL gK) (ofL (smallB 1)) (ladL (ofL p) (ofL gK) (sbit k) (q0L (ofL p))) (kf (xm (sbit k) (lf p))) hk hp rfl rfl rfl rfl
  (ladL_ok (ofL_okE hp) (ofL_okE gK_length) (sbit k) (q0L_ok (ofL_okE hp))) rfl (fun j=>rfl) (mult_fin k p hp) w
theorem base_calls (k r:List UInt8) (hk:k.length=32) (hr:kf (xm (sbit k) (lf (smallB 9)))=r) (w:World) :
 Calls Tryz.prog 54 #[.agg (bys k).toArray] w fun e w'=>e=.returned (.agg (bys r).toArray)∧Kept [] w w':=by
 have lr:r.length=32:=by rw [← hr];exact kf_length _
 refine enter (n:=6) (R:=fun e L=>e=.returned (.agg (bys r).toArray)) [.agg (bys k).toArray] F54 rfl rfl rfl (St.refl w) ?_ (fun e w' L' h H=>⟨h,H.kept⟩)
 refine VC_seq<|VC_region<|l_boxA rfl rfl<|fun b1=>l_allocA zr33 rfl<|fun b2=>vl_nil<|th_n<|VC_seq<|VC_region<|vl_v (q_loads 1 U33 rfl rfl rfl sz33 (by simp only [zb,zu,zw,zi,za];omega)) rfl<|vl_v (q_build (c':=bys (smallB 9)) rfl (by kernel_rfl)) rfl<|vl_v (q_callV F19 rfl rfl rfl (fun w1 H1=>hr ▸ mult_calls k (smallB 9) hk (smallB_length 9) w1)) rfl ?_
 refine l_storeA 0 rfl rfl rfl sz33 (by simp only [zb,zu,zw,zi,za];omega) (by with_reducible first | exact bys_one _ | exact u32s_one _ | exact u64s_one _ | exact i64s_one _ | exact n64s_one _ | assumption) (by simp only [zs,zr,zm,za,zb,zu,zw,zi,zt,zd,zc,zn, *]<;>first | done | omega) ?_
 simp only [List.set_cons_zero,List.set_cons_succ]
 refine vl_nil<|th_n<|VC_ret ?_
 refine ⟨_,resC1 0 rfl U33 rfl rfl rfl sz33 (by simp only [zb,zu,zw,zi,za];omega),?_⟩
 exact rfl
end Go.Proofs.YtfpdnpppcoomnaaGreat
namespace Go.PBYtfpdnpppcoomnaaGreat
open Go Go.RowKit
def edD:Fp:=20800338683988658368647408995589388737092878452977063003340006470870624536394
theorem edD_g:edD*(g24+1)=g24:=by decide +kernel
theorem g24_1:g24+1≠0:=by decide +kernel
theorem two_ne:(2:Fp)≠0:=by decide +kernel
theorem edD_ns (r:Fp):r*r≠edD:=by
 intro h
 have h1:edD.val^((pN-1) / 2) % pN=pN-1:=by
  rw [← pmf_eq pN edD.val (by decide +kernel) 255 ((pN-1) / 2) (by decide +kernel)]
  decide +kernel
 have hr:r≠0:=by
  intro h0
  rw [h0] at h
  exact absurd h (by decide +kernel)
 have hrv:r.val % pN≠0:=by
  rw [Nat.mod_eq_of_lt r.isLt]
  intro h0
  exact hr (Fin.ext h0)
 have h2:=goP.fermat (by decide +kernel) r.val hrv
 have h3:edD.val=r.val*r.val % pN:=by rw [← h];rfl
 have h4:edD.val^((pN-1) / 2) % pN=1:=by
  rw [h3,Nat.pow_mod,Nat.mod_mod,← Nat.pow_mod,← Nat.pow_two,← Nat.pow_mul,show 2*((pN-1) / 2)=pN-1 by decide +kernel]
  exact h2
 rw [h4] at h1
 exact absurd h1 (by decide +kernel)
theorem mul_ne {a b:Fp} (ha:a≠0) (hb:b≠0):a*b≠0:=by
 intro h
 rcases mul_zero_or h with h | h
 ·exact ha h
 ·exact hb h
theorem mul_can {k a b:Fp} (hk:k≠0) (h:k*a=k*b):a=b:=by
 have h1:k*(a-b)=0:=by grind
 rcases mul_zero_or h1 with h1 | h1
 ·exact absurd h1 hk
 ·grind
theorem div_eq {a b c d:Fp} (hb:b≠0) (hd:d≠0) (h:a*d=c*b):a*finv b=c*finv d:=by
 have h1:=mul_finv hb
 have h2:=mul_finv hd
 refine mul_can (mul_ne hb hd) ?_
 grind
abbrev Pt:=Fp × Fp
def onE (P:Pt):Prop:=P.1*P.1+P.2*P.2=1+edD*P.1*P.1*P.2*P.2
def del (P Q:Pt):Fp:=edD*P.1*Q.1*P.2*Q.2
theorem del_sq {P Q:Pt} (hP:onE P) (hQ:onE Q):del P Q*del P Q≠1:=by
 obtain ⟨x1,y1⟩:=P
 obtain ⟨x2,y2⟩:=Q
 unfold onE at hP hQ
 unfold del
 simp only at hP hQ ⊢
 generalize hD:edD=D at hP hQ ⊢
 intro h
 have k1:D*(x1*y1)*(x1*y1)*(x2*x2+y2*y2)=x1*x1+y1*y1:=by grind
 obtain ⟨e,he⟩:∃ e,e=D*x1*x2*y1*y2:=⟨_,rfl⟩
 have he2:e*e=1:=by rw [he];exact h
 have k2:(x1+e*y1)*(x1+e*y1)=D*(x1*y1*(x2+y2))*(x1*y1*(x2+y2)):=by grind
 have k3:(x1-e*y1)*(x1-e*y1)=D*(x1*y1*(x2-y2))*(x1*y1*(x2-y2)):=by grind
 have hx:x1≠0:=by intro h0;subst h0;have:=fp_one_ne;grind
 have hy:y1≠0:=by intro h0;subst h0;have:=fp_one_ne;grind
 have hx2:x2≠0:=by intro h0;subst h0;have:=fp_one_ne;grind
 have key:∀ s t:Fp,t≠0→s*s=D*t*t→False:=by
  intro s t ht hs
  have h5:=mul_finv ht
  refine edD_ns (s*finv t) ?_
  rw [hD]
  grind
 by_cases h6:x2+y2=0
 ·have h7:x2-y2≠0:=by
   intro h8
   have h9:2*x2=0:=by grind
   rcases mul_zero_or h9 with h9 | h9
   ·exact two_ne h9
   ·exact hx2 h9
  exact key _ _ (mul_ne (mul_ne hx hy) h7) k3
 ·exact key _ _ (mul_ne (mul_ne hx hy) h6) k2
theorem del_p {P Q:Pt} (hP:onE P) (hQ:onE Q):1+del P Q≠0:=fun h=>del_sq hP hQ (by grind)
theorem del_m {P Q:Pt} (hP:onE P) (hQ:onE Q):1-del P Q≠0:=fun h=>del_sq hP hQ (by grind)
def padd (P Q:Pt):Pt:=((P.1*Q.2+P.2*Q.1)*finv (1+del P Q),(P.2*Q.2-P.1*Q.1)*finv (1-del P Q))
theorem padd_x {P Q:Pt} (hP:onE P) (hQ:onE Q):(padd P Q).1*(1+del P Q)=P.1*Q.2+P.2*Q.1:=by
 have:=mul_finv (del_p hP hQ)
 unfold padd
 simp only
 grind
theorem padd_y {P Q:Pt} (hP:onE P) (hQ:onE Q):(padd P Q).2*(1-del P Q)=P.2*Q.2-P.1*Q.1:=by
 have:=mul_finv (del_m hP hQ)
 unfold padd
 simp only
 grind
theorem t_on (D x1 y1 x2 y2:Fp) (e1:x1*x1+y1*y1=1+D*x1*x1*y1*y1) (e2:x2*x2+y2*y2=1+D*x2*x2*y2*y2) (a:Fp) (ha:a=D*x1*x2*y1*y2) :
 (x1*y2+y1*x2)*(x1*y2+y1*x2)*(1-a)*(1-a)+(y1*y2-x1*x2)*(y1*y2-x1*x2)*(1+a)*(1+a)=(1+a)*(1+a)*(1-a)*(1-a)+D*(x1*y2+y1*x2)*(x1*y2+y1*x2)*(y1*y2-x1*x2)*(y1*y2-x1*x2):=by grind
theorem t_assoc (D x1 y1 x2 y2 x3 y3:Fp) (e1:x1*x1+y1*y1=1+D*x1*x1*y1*y1) (e2:x2*x2+y2*y2=1+D*x2*x2*y2*y2) (e3:x3*x3+y3*y3=1+D*x3*x3*y3*y3) :
 ((x1*y2+y1*x2)*(1-D*x1*x2*y1*y2)*y3+(y1*y2-x1*x2)*(1+D*x1*x2*y1*y2)*x3)*((1+D*x2*x3*y2*y3)*(1-D*x2*x3*y2*y3)+D*(x2*y3+y2*x3)*(y2*y3-x2*x3)*x1*y1)
 = (x1*(y2*y3-x2*x3)*(1+D*x2*x3*y2*y3)+y1*(x2*y3+y2*x3)*(1-D*x2*x3*y2*y3))*((1+D*x1*x2*y1*y2)*(1-D*x1*x2*y1*y2)+D*(x1*y2+y1*x2)*(y1*y2-x1*x2)*x3*y3):=by grind
theorem t_assocy (D x1 y1 x2 y2 x3 y3:Fp) (e1:x1*x1+y1*y1=1+D*x1*x1*y1*y1) (e2:x2*x2+y2*y2=1+D*x2*x2*y2*y2) (e3:x3*x3+y3*y3=1+D*x3*x3*y3*y3) :
 ((y1*y2-x1*x2)*(1+D*x1*x2*y1*y2)*y3-(x1*y2+y1*x2)*(1-D*x1*x2*y1*y2)*x3)*((1+D*x2*x3*y2*y3)*(1-D*x2*x3*y2*y3)-D*(x2*y3+y2*x3)*(y2*y3-x2*x3)*x1*y1)
 = (y1*(y2*y3-x2*x3)*(1+D*x2*x3*y2*y3)-x1*(x2*y3+y2*x3)*(1-D*x2*x3*y2*y3))*((1+D*x1*x2*y1*y2)*(1-D*x1*x2*y1*y2)-D*(x1*y2+y1*x2)*(y1*y2-x1*x2)*x3*y3):=by grind
theorem padd_on {P Q:Pt} (hP:onE P) (hQ:onE Q):onE (padd P Q):=by
 have hx:=padd_x hP hQ
 have hy:=padd_y hP hQ
 have h1:=del_p hP hQ
 have h2:=del_m hP hQ
 obtain ⟨⟨s,t⟩,hS⟩:∃ S,padd P Q=S:=⟨_,rfl⟩
 obtain ⟨x1,y1⟩:=P
 obtain ⟨x2,y2⟩:=Q
 rw [hS] at hx hy ⊢
 unfold onE at hP hQ ⊢
 have ht:=t_on edD x1 y1 x2 y2 hP hQ (del (x1,y1) (x2,y2)) rfl
 simp only at hx hy ⊢
 generalize del (x1,y1) (x2,y2)=a at hx hy h1 h2 ht
 rw [← hx,← hy] at ht
 have hk:=mul_ne (mul_ne h1 h1) (mul_ne h2 h2)
 refine mul_can hk ?_
 clear hP hQ hS hx hy h1 h2 hk
 generalize edD=D at *
 grind
theorem padd_comm (P Q:Pt):padd P Q=padd Q P:=by
 have h:del P Q=del Q P:=by unfold del;grind
 unfold padd
 rw [h]
 congr 1
 ·congr 1;grind
 ·congr 1;grind
def pO:Pt:=(0,1)
theorem pO_on:onE pO:=by unfold onE pO;grind
theorem finv_one:finv 1=1:=finv_unique (by grind)
theorem padd_O (P:Pt):padd P pO=P:=by
 have h:del P pO=0:=by unfold del pO;grind
 unfold padd
 rw [h,show (1:Fp)+0=1 by decide +kernel,show (1:Fp)-0=1 by decide +kernel,finv_one]
 unfold pO
 obtain ⟨x,y⟩:=P
 simp only
 congr 1
 ·grind
 ·grind
def pneg (P:Pt):Pt:=(-P.1,P.2)
theorem pneg_on {P:Pt} (h:onE P):onE (pneg P):=by unfold onE pneg at *;simp only;grind
theorem padd_neg {P:Pt} (h:onE P):padd P (pneg P)=pO:=by
 have hx:=padd_x h (pneg_on h)
 have hy:=padd_y h (pneg_on h)
 have h1:=del_p h (pneg_on h)
 have h2:=del_m h (pneg_on h)
 have e1:(padd P (pneg P)).1=0:=by
  refine mul_can h1 ?_
  unfold pneg at *
  simp only at *
  grind
 have e2:(padd P (pneg P)).2=1:=by
  refine mul_can h2 ?_
  unfold onE at h
  unfold del pneg at *
  simp only at *
  grind
 exact Prod.ext e1 e2
theorem padd_assoc {P Q R:Pt} (hP:onE P) (hQ:onE Q) (hR:onE R):padd (padd P Q) R=padd P (padd Q R):=by
 have hS:=padd_on hP hQ
 have hT:=padd_on hQ hR
 have sx:=padd_x hP hQ
 have sy:=padd_y hP hQ
 have tx:=padd_x hQ hR
 have ty:=padd_y hQ hR
 have a1:=del_p hP hQ
 have a2:=del_m hP hQ
 have b1:=del_p hQ hR
 have b2:=del_m hQ hR
 have c1:=del_p hS hR
 have c2:=del_m hS hR
 have d1:=del_p hP hT
 have d2:=del_m hP hT
 rw [show padd (padd P Q) R=(((padd P Q).1*R.2+(padd P Q).2*R.1)*finv (1+del (padd P Q) R),((padd P Q).2*R.2-(padd P Q).1*R.1)*finv (1-del (padd P Q) R)) from rfl,
  show padd P (padd Q R)=((P.1*(padd Q R).2+P.2*(padd Q R).1)*finv (1+del P (padd Q R)),(P.2*(padd Q R).2-P.1*(padd Q R).1)*finv (1-del P (padd Q R))) from rfl]
 generalize padd P Q=S at *
 generalize padd Q R=T at *
 obtain ⟨x1,y1⟩:=P
 obtain ⟨x2,y2⟩:=Q
 obtain ⟨x3,y3⟩:=R
 obtain ⟨s,t⟩:=S
 obtain ⟨u,v⟩:=T
 have kx:=t_assoc edD x1 y1 x2 y2 x3 y3 hP hQ hR
 have ky:=t_assocy edD x1 y1 x2 y2 x3 y3 hP hQ hR
 clear hP hQ hR hS hT
 unfold del at *
 simp only at *
 generalize edD=D at *
 rw [← sx,← sy,← tx,← ty] at kx ky
 have hk:=mul_ne (mul_ne a1 a2) (mul_ne b1 b2)
 generalize D*x1*x2*y1*y2=a at *
 generalize D*x2*x3*y2*y3=b at *
 congr 1
 ·refine div_eq c1 d1 (mul_can hk ?_)
  clear ky sx sy tx ty a1 a2 b1 b2 c1 c2 d1 d2 hk
  grind
 ·refine div_eq c2 d2 (mul_can hk ?_)
  clear kx sx sy tx ty a1 a2 b1 b2 c1 c2 d1 d2 hk
  grind
def pmul:Nat→Pt→Pt
 | 0,_=>pO
 | k+1,P=>padd (pmul k P) P
theorem pmul_on {P:Pt} (h:onE P):∀ k,onE (pmul k P)
 | 0=>pO_on
 | k+1=>padd_on (pmul_on h k) h
theorem pmul_add {P:Pt} (h:onE P) (i:Nat):∀ j,pmul (i+j) P=padd (pmul i P) (pmul j P)
 | 0=>by rw [Nat.add_zero,pmul,padd_O]
 | j+1=>by
  show padd (pmul (i+j) P) P=padd (pmul i P) (padd (pmul j P) P)
  rw [pmul_add h i j,padd_assoc (pmul_on h i) (pmul_on h j) h]
theorem pmul_mul {P:Pt} (h:onE P) (j:Nat):∀ i,pmul (i*j) P=pmul i (pmul j P)
 | 0=>by rw [Nat.zero_mul];rfl
 | i+1=>by rw [Nat.succ_mul,pmul_add h,pmul_mul h j i];rfl
theorem pmul_O:∀ k,pmul k pO=pO
 | 0=>rfl
 | k+1=>by rw [pmul,pmul_O k,padd_O]
theorem pmul_one (P:Pt):pmul 1 P=P:=by
 show padd pO P=P
 rw [padd_comm,padd_O]
def mu (y:Fp):Fp:=(1+y)*finv (1-y)
def rel (a c y:Fp):Prop:=¬ (a=0∧c=0)∧a*(1-y)=c*(1+y)
theorem rel_par {a c y:Fp} (h:rel a c y):∃ t,t≠0∧a=t*(1+y)∧c=t*(1-y):=by
 obtain ⟨h1,h2⟩:=h
 have h3:=mul_finv two_ne
 refine ⟨(a+c)*finv 2,?_,?_,?_⟩
 ·intro h0
  rcases mul_zero_or h0 with h0 | h0
  ·have e1:2*a=0:=by grind
   rcases mul_zero_or e1 with e1 | e1
   ·exact two_ne e1
   ·exact h1 ⟨e1,by grind⟩
  ·exact finv_ne two_ne h0
 ·refine mul_can two_ne ?_;grind
 ·refine mul_can two_ne ?_;grind
theorem rel_mu {a c y:Fp} (h:rel a c y):a*finv c=mu y:=by
 obtain ⟨t,ht,ha,hc⟩:=rel_par h
 unfold mu
 by_cases h1:1-y=0
 ·rw [h1,hc,h1,finv_zero,show t*0=0 by grind,finv_zero];grind
 ·have hc0:c≠0:=by rw [hc];exact mul_ne ht h1
  exact div_eq hc0 h1 (by grind)
theorem mu_rel {y:Fp} (h1:1-y≠0):rel (mu y) 1 y:=by
 refine ⟨fun h=>fp_one_ne h.2,?_⟩
 have:=mul_finv h1
 unfold mu
 grind
theorem dbl_key {X y:Fp} (h:onE (X,y)):(1-X*X)*(1+g24*(1-y*y))=y*y:=by
 have hg:=edD_g
 unfold onE at h
 simp only at h
 generalize edD=D at h hg
 generalize g24=g at hg ⊢
 grind
theorem rel_dbl {P:Pt} {a c:Fp} (hP:onE P) (h:rel a c P.2) :
 rel ((a+c)*(a+c)*((a-c)*(a-c))) (((a+c)*(a+c)-(a-c)*(a-c))*((a+c)*(a+c)+g24*((a+c)*(a+c)-(a-c)*(a-c)))) (padd P P).2:=by
 have hy:=padd_y hP hP
 have hd:=del_m hP hP
 obtain ⟨X,y⟩:=P
 have hk:=dbl_key hP
 obtain ⟨t,ht,ha,hc⟩:=rel_par h
 generalize (padd (X,y) (X,y)).2=z at *
 have hdel:del (X,y) (X,y)=X*X+y*y-1:=by unfold onE at hP;unfold del;simp only at *;grind
 rw [hdel] at hy hd
 simp only at hy ha hc hk
 clear h
 have hD:X*X+y*y=1+edD*X*X*y*y:=hP
 clear hP hdel
 generalize hg:g24=g at *
 have h2:=two_ne
 have ea:(a+c)*(a+c)*((a-c)*(a-c))=16*(t*t*(t*t))*(y*y):=by rw [ha,hc];grind
 have ec:((a+c)*(a+c)-(a-c)*(a-c))*((a+c)*(a+c)+g*((a+c)*(a+c)-(a-c)*(a-c)))=16*(t*t*(t*t))*((1-y*y)*(1+g*(1-y*y))):=by rw [ha,hc];grind
 rw [ea,ec]
 have h16:(16:Fp)≠0:=by decide +kernel
 have ht4:16*(t*t*(t*t))≠0:=mul_ne h16 (mul_ne (mul_ne ht ht) (mul_ne ht ht))
 generalize 16*(t*t*(t*t))=k at ht4 ⊢
 refine ⟨?_,?_⟩
 ·rintro ⟨z1,z2⟩
  rcases mul_zero_or z1 with z1 | z1
  ·exact ht4 z1
  ·rw [z1] at z2
   rcases mul_zero_or z2 with z2 | z2
   ·exact ht4 z2
   ·have:=g24_1
    rw [hg] at this
    exact this (by grind)
 ·refine mul_can hd ?_
  clear ea ec ha hc ht
  have e1:(1-z)*(1-(X*X+y*y-1))=2*(1-y*y):=by grind
  have e2:(1+z)*(1-(X*X+y*y-1))=2*(1-X*X):=by grind
  generalize 1-(X*X+y*y-1)=m at *
  have e3:m*(k*(y*y)*(1-z))=k*(y*y)*(2*(1-y*y)):=by rw [← e1];grind
  have e4:m*(k*((1-y*y)*(1+g*(1-y*y)))*(1+z))=k*((1-y*y)*(1+g*(1-y*y)))*(2*(1-X*X)):=by rw [← e2];grind
  rw [e3,e4]
  clear e1 e2 e3 e4 hy
  grind
theorem t_dif (D X2 y2 X3 y3:Fp) (e2:X2*X2+y2*y2=1+D*X2*X2*y2*y2) (e3:X3*X3+y3*y3=1+D*X3*X3*y3*y3) (a:Fp) (ha:a=D*X2*X3*y2*y3) :
 (1-a+y2*y3-X2*X3)*(1+a+y2*y3+X2*X3)*((y2-y3)*(y2-y3))=(1-a-y2*y3+X2*X3)*(1+a-y2*y3-X2*X3)*((y2+y3)*(y2+y3)):=by grind
theorem r_sub4 {z v e y2 y3 X2 X3:Fp} (sy:z*(1-e)=y2*y3-X2*X3) (ty:v*(1 - -e)=y2*y3-X2 * -X3) :
 (1-z)*(1-e)=1-e-y2*y3+X2*X3∧(1+z)*(1-e)=1-e+y2*y3-X2*X3∧(1-v)*(1+e)=1+e-y2*y3-X2*X3∧(1+v)*(1+e)=1+e+y2*y3+X2*X3:=by
 refine ⟨?_,?_,?_,?_⟩
 ·clear ty;grind
 ·clear ty;grind
 ·clear sy;grind
 ·clear sy;grind
theorem on_y0 {X y D:Fp} (h:X*X+y*y=1+D*X*X*y*y) (hy:y=0):X*X=1:=by
 have h1:X*X-1=y*(D*X*X*y-y):=by grind
 have h2:X*X-1=0:=by rw [h1];generalize D*X*X*y-y=k;rw [hy];grind
 clear h h1
 grind
theorem rel_dif {P Q:Pt} {a b c d x:Fp} (hP:onE P) (hQ:onE Q) (h1:rel a c P.2) (h2:rel b d Q.2)
 (hx:x*(1-(padd P (pneg Q)).2)=1+(padd P (pneg Q)).2) (hm:1-(padd P (pneg Q)).2≠0) (hp:1+(padd P (pneg Q)).2≠0) :
 rel (((b-d)*(a+c)+(b+d)*(a-c))*((b-d)*(a+c)+(b+d)*(a-c))) (x*(((b-d)*(a+c)-(b+d)*(a-c))*((b-d)*(a+c)-(b+d)*(a-c)))) (padd P Q).2:=by
 have sy:=padd_y hP hQ
 have ty:=padd_y hP (pneg_on hQ)
 have n1:=del_m hP hQ
 have n2:=del_p hP hQ
 generalize (padd P (pneg Q)).2=v at *
 generalize (padd P Q).2=z at *
 obtain ⟨X2,y2⟩:=P
 obtain ⟨X3,y3⟩:=Q
 have hdn:del (X2,y2) (pneg (X3,y3)) = - del (X2,y2) (X3,y3):=by unfold del pneg;simp only;grind
 rw [hdn] at ty
 unfold pneg at ty
 simp only at sy ty h1 h2
 obtain ⟨t,ht,ha,hc⟩:=rel_par h1
 obtain ⟨s,hs,hb,hd⟩:=rel_par h2
 have key:=t_dif edD X2 y2 X3 y3 hP hQ _ (rfl:del (X2,y2) (X3,y3)=_)
 clear h1 h2
 have dq:del (X2,y2) (X3,y3)=edD*X2*X3*y2*y3:=rfl
 have o2:X2*X2+y2*y2=1+edD*X2*X2*y2*y2:=hP
 have o3:X3*X3+y3*y3=1+edD*X3*X3*y3*y3:=hQ
 clear hP hQ hdn
 generalize del (X2,y2) (X3,y3)=e at *
 have h4:(4:Fp)≠0:=by decide +kernel
 have hk:=mul_ne h4 (mul_ne ht hs)
 have ea:(b-d)*(a+c)+(b+d)*(a-c)=4*(t*s)*(y2+y3):=by rw [ha,hb,hc,hd];grind
 have ec:(b-d)*(a+c)-(b+d)*(a-c)=4*(t*s)*(y3-y2):=by rw [ha,hb,hc,hd];grind
 rw [ea,ec]
 clear ea ec ha hb hc hd ht hs
 generalize 4*(t*s)=k at hk ⊢
 have hx0:x≠0:=by
  rintro rfl
  exact hp (by grind)
 refine ⟨?_,?_⟩
 ·rintro ⟨z1,z2⟩
  have w1:y2+y3=0:=by
   rcases mul_zero_or z1 with q | q
   ·rcases mul_zero_or q with q | q
    ·exact absurd q hk
    ·exact q
   ·rcases mul_zero_or q with q | q
    ·exact absurd q hk
    ·exact q
  have w2:y3-y2=0:=by
   rcases mul_zero_or z2 with q | q
   ·exact absurd q hx0
   rcases mul_zero_or q with q | q
   ·rcases mul_zero_or q with q | q
    ·exact absurd q hk
    ·exact q
   ·rcases mul_zero_or q with q | q
    ·exact absurd q hk
    ·exact q
  have w3:2*y2=0:=by grind
  have w4:y2=0:=by
   rcases mul_zero_or w3 with q | q
   ·exact absurd q two_ne
   ·exact q
  have w5:y3=0:=by grind
  have q3:=on_y0 o2 w4
  have q4:=on_y0 o3 w5
  subst w4 w5
  clear key n1 n2 sy z1 z2 w1 w2 w3
  have q1:v=X2*X3:=by grind
  have q2:(1-v)*(1+v)=0:=by
   rw [show (1-v)*(1+v)=1-v*v by clear hx hm hp ty q1 q3 q4 dq o2 o3 hk hx0;grind,q1,show X2*X3*(X2*X3)=X2*X2*(X3*X3) by clear hx hm hp ty q1 q3 q4 dq o2 o3 hk hx0;grind,q3,q4]
   decide +kernel
  rcases mul_zero_or q2 with q2 | q2
  ·exact hm q2
  ·exact hp q2
 ·obtain ⟨f1,f2,f3,f4⟩:=r_sub4 sy ty
  rw [← f1,← f2,← f3,← f4] at key
  refine mul_can (mul_ne (mul_ne hm n1) n2) ?_
  have n3:1+e≠0:=n2
  clear f1 f2 f3 f4 sy ty o2 o3 dq n2 n3 hp hm hx0 hk
  generalize 1-e=m1 at *
  generalize 1+e=m2 at *
  clear n1
  have r1:(1-v)*m1*m2*(k*(y2+y3)*(k*(y2+y3))*(1-z))=k*k*((1-z)*m1*((1-v)*m2)*((y2+y3)*(y2+y3))):=by clear hx key;grind
  have r2:(1-v)*m1*m2*(x*(k*(y3-y2)*(k*(y3-y2)))*(1+z))=k*k*((1+z)*m1*(x*(1-v)*m2)*((y2-y3)*(y2-y3))):=by clear hx key r1;grind
  rw [r1,r2,← key,hx]
theorem pneg_add (P Q:Pt):pneg (padd P Q)=padd (pneg P) (pneg Q):=by
 have h:del (pneg P) (pneg Q)=del P Q:=by unfold del pneg;simp only;grind
 unfold padd
 rw [h]
 unfold pneg
 simp only
 congr 1
 ·grind
 ·congr 1;grind
theorem pO_add (P:Pt):padd pO P=P:=by rw [padd_comm,padd_O]
theorem dif_up {P Q:Pt} (hP:onE P) (hQ:onE Q):padd P (pneg (padd P Q))=pneg Q:=by
 rw [pneg_add,← padd_assoc hP (pneg_on hP) (pneg_on hQ),padd_neg hP,pO_add]
theorem dif_dn {P Q:Pt} (hP:onE P) (hQ:onE Q):padd (padd P Q) (pneg P)=Q:=by
 rw [padd_comm P Q,padd_assoc hQ hP (pneg_on hP),padd_neg hP,padd_O]
theorem pmul_two {Q:Pt} (hQ:onE Q) (n:Nat):pmul (2*n) Q=padd (pmul n Q) (pmul n Q):=by rw [Nat.two_mul,pmul_add hQ]
theorem pmul_two1 {Q:Pt} (hQ:onE Q) (n:Nat):pmul (2*n+1) Q=padd (pmul n Q) (pmul (n+1) Q):=by rw [show 2*n+1=n+(n+1) by omega,pmul_add hQ]
def vb (s:Nat→Bool):Nat→Nat
 | 0=>0
 | j+1=>2*vb s j+(if s (254-j) then 1 else 0)
def rel4 (q:Fp × Fp × Fp × Fp) (y z:Fp):Prop:=rel q.1 q.2.2.1 y∧rel q.2.1 q.2.2.2 z
abbrev stepF (x:Fp):=stepC (fun a b:Fp=>a+b) (fun a b=>a-b) (fun a b=>a*b) x g24
theorem step_up {Q:Pt} {x:Fp} (hQ:onE Q) (hx:rel x 1 Q.2) (hm:1-Q.2≠0) (hp:1+Q.2≠0) {n:Nat} {q:Fp × Fp × Fp × Fp} (h:rel4 q (pmul n Q).2 (pmul (n+1) Q).2) :
 rel4 (stepF x q) (pmul (2*n) Q).2 (pmul (2*n+1) Q).2:=by
 obtain ⟨a,b,c,d⟩:=q
 have hd:(padd (pmul n Q) (pneg (pmul (n+1) Q))).2=Q.2:=by
  show (padd (pmul n Q) (pneg (padd (pmul n Q) Q))).2=Q.2
  rw [dif_up (pmul_on hQ n) hQ];rfl
 refine ⟨?_,?_⟩
 ·rw [pmul_two hQ];exact rel_dbl (pmul_on hQ n) h.1
 ·rw [pmul_two1 hQ]
  refine rel_dif (pmul_on hQ n) (pmul_on hQ (n+1)) h.1 h.2 ?_ ?_ ?_
  ·rw [hd,hx.2];grind
  ·rw [hd];exact hm
  ·rw [hd];exact hp
theorem step_dn {Q:Pt} {x:Fp} (hQ:onE Q) (hx:rel x 1 Q.2) (hm:1-Q.2≠0) (hp:1+Q.2≠0) {n:Nat} {q:Fp × Fp × Fp × Fp} (h:rel4 q (pmul (n+1) Q).2 (pmul n Q).2) :
 rel4 (stepF x q) (pmul (2*n+2) Q).2 (pmul (2*n+1) Q).2:=by
 obtain ⟨a,b,c,d⟩:=q
 have hd:(padd (pmul (n+1) Q) (pneg (pmul n Q))).2=Q.2:=by
  show (padd (padd (pmul n Q) Q) (pneg (pmul n Q))).2=Q.2
  rw [dif_dn (pmul_on hQ n) hQ]
 refine ⟨?_,?_⟩
 ·rw [show 2*n+2=2*(n+1) by omega,pmul_two hQ];exact rel_dbl (pmul_on hQ (n+1)) h.1
 ·rw [pmul_two1 hQ,padd_comm]
  refine rel_dif (pmul_on hQ (n+1)) (pmul_on hQ n) h.1 h.2 ?_ ?_ ?_
  ·rw [hd,hx.2];grind
  ·rw [hd];exact hm
  ·rw [hd];exact hp
theorem beg_rel {Q:Pt} {x:Fp} (hx:rel x 1 Q.2):rel4 (beg x) (pmul 0 Q).2 (pmul 1 Q).2:=by
 refine ⟨⟨fun h=>fp_one_ne h.1,?_⟩,?_⟩
 ·show (1:Fp)*(1-1)=0*(1+1);decide +kernel
 ·rw [pmul_one];exact hx
theorem lad_rel {Q:Pt} {x:Fp} (hQ:onE Q) (hx:rel x 1 Q.2) (hm:1-Q.2≠0) (hp:1+Q.2≠0) (s:Nat→Bool):∀ j,rel4 (ladF x g24 s (beg x) j) (pmul (vb s j) Q).2 (pmul (vb s j+1) Q).2
 | 0=>beg_rel hx
 | j+1=>by
  have ih:=lad_rel hQ hx hm hp s j
  unfold ladF at ih ⊢
  rw [ladC,vb]
  generalize ladC (fun a b:Fp=>a+b) (fun a b=>a-b) (fun a b=>a*b) x g24 s (beg x) j=q at ih ⊢
  cases hb:s (254-j)
  ·exact step_up hQ hx hm hp ih
  ·obtain ⟨a,b,c,d⟩:=q
   have:=step_dn (q:=(b,a,d,c)) hQ hx hm hp ⟨ih.2,ih.1⟩
   exact ⟨this.2,this.1⟩
theorem mu_one:mu 1=0:=by
 unfold mu
 rw [show (1:Fp)-1=0 by decide +kernel,finv_zero];decide +kernel
theorem edD_1:1-edD≠0:=by decide +kernel
theorem x_zero {P:Pt} (hP:onE P) (h:P.2*P.2=1):P.1=0:=by
 obtain ⟨X,y⟩:=P
 have h1:X*X+y*y=1+edD*X*X*y*y:=hP
 have h2:=edD_1
 simp only at h ⊢
 have h3:(1-edD)*(X*X)=0:=by clear h2 hP;generalize edD=D at *;grind
 rcases mul_zero_or h3 with h3 | h3
 ·exact absurd h3 h2
 ·rcases mul_zero_or h3 with h3 | h3<;>exact h3
theorem two_half:padd (0,-1) (0,-1)=pO:=by
 unfold padd
 rw [show del (0,-1) (0,-1)=0 by decide +kernel,show (1:Fp)+0=1 by decide +kernel,show (1:Fp)-0=1 by decide +kernel,finv_one]
 decide +kernel
theorem vb_even {s:Nat→Bool} (h0:s 0=false):∃ m,vb s 255=m*2:=⟨vb s 254,by rw [show (255:Nat)=254+1 from rfl,vb,show 254-254=0 from rfl,h0];simp;omega⟩
theorem xm_mu {Q:Pt} (hQ:onE Q) {s:Nat→Bool} (h0:s 0=false):xm s (mu Q.2)=mu (pmul (vb s 255) Q).2:=by
 by_cases hm:1-Q.2=0
 ·have hy:Q.2=1:=by grind
  have hx:=x_zero hQ (by rw [hy];decide +kernel)
  have hq:Q=pO:=Prod.ext hx hy
  rw [hq,pmul_O]
  show xm s (mu 1)=mu 1
  rw [mu_one,xm_zero]
 by_cases hp:1+Q.2=0
 ·have hy:Q.2 = -1:=by grind
  have hx:=x_zero hQ (by rw [hy];decide +kernel)
  have hq:Q=(0,-1):=Prod.ext hx hy
  obtain ⟨n,hn⟩:=vb_even h0
  have h2:pmul 2 Q=pO:=by
   show padd (padd pO Q) Q=pO
   rw [pO_add,hq,two_half]
  rw [hn,pmul_mul hQ,h2,pmul_O]
  have:mu Q.2=0:=by unfold mu;rw [hp];grind
  rw [this,xm_zero]
  exact mu_one.symm
 ·have h:=lad_rel hQ (mu_rel hm) hm hp s 255
  exact rel_mu h.1
def pB:Pt:=(9771384041963202563870679428059935816164187996444183106833894008023910952347,46316835694926478169428394003475163141307993866256225615783033603165251855960)
theorem pB_on:onE pB:=by unfold onE;decide +kernel
theorem pB_mu:mu pB.2=fz 9:=by
 have h:finv (1-pB.2)=5:=finv_unique (by decide +kernel)
 unfold mu
 rw [h]
 decide +kernel
theorem sbit_zero (k:List UInt8):sbit k 0=false:=rfl
def kv (k:List UInt8):Nat:=vb (sbit k) 255
theorem xm_base (k:List UInt8):xm (sbit k) (fz 9)=mu (pmul (kv k) pB).2:=by
 rw [← pB_mu,xm_mu pB_on (sbit_zero k)];rfl
theorem xm_pt (k:List UInt8) (n:Nat):xm (sbit k) (mu (pmul n pB).2)=mu (pmul (kv k*n) pB).2:=by
 rw [xm_mu (pmul_on pB_on n) (sbit_zero k),← pmul_mul pB_on];rfl
theorem xm_two (k l:List UInt8):xm (sbit k) (xm (sbit l) (fz 9))=xm (sbit l) (xm (sbit k) (fz 9)):=by
 rw [xm_base,xm_base,xm_pt,xm_pt,Nat.mul_comm]
end Go.PBYtfpdnpppcoomnaaGreat
namespace Go.Proofs.YtfpdnpppcoomnaaGreat
open Go.RowKit Go.PBYtfpdnpppcoomnaaGreat
def sumB (b:List UInt8):List UInt8:=macB [] b
theorem sumB_length (b:List UInt8):(sumB b).length=32:=macB_length _ _
def pubB (k:List UInt8):List UInt8:=kf (xm (sbit k) (lf (smallB 9)))
theorem pubB_length (k:List UInt8):(pubB k).length=32:=kf_length _
def comB (k p:List UInt8):List UInt8:=kf (xm (sbit k) (lf p))
theorem comB_length (k p:List UInt8):(comB k p).length=32:=kf_length _
def pairB (b:List UInt8):List UInt8:=sumB b++pubB (sumB b)
theorem pairB_length (b:List UInt8):(pairB b).length=64:=by rw [pairB,List.length_append,sumB_length,pubB_length]
theorem sum_calls (b:List UInt8) (B:Option Addr) (m cb:Nat) (hm:m=b.length) (hb:b.length≤140737488355328) (w:World) (hB:SlAt w B (bys b)) (hcb:b.length≤cb) :
 Calls Tryz.prog 53 #[.slice B m cb] w fun e w'=>e=.returned (.agg (bys (sumB b)).toArray)∧Kept [] w w':=by
 subst hm
 obtain ⟨s,hs⟩:∃ s,sumB b=s:=⟨_,rfl⟩
 have ls:s.length=32:=by rw [← hs];exact sumB_length b
 have hs':macB [] b=s:=hs
 rw [hs]
 refine enter (n:=11) (R:=fun e L=>e=.returned (.agg (bys s).toArray)) [.slice B b.length cb] F53 rfl rfl rfl (St.refl w) ?_ (fun e w' L' h H=>⟨h,H.kept⟩)
 refine VC_seq<|VC_region<|l_allocA zr33 rfl<|fun b2=>vl_nil<|th_n<|VC_seq<|VC_region<|vl_v (q_move rfl) rfl<|vl_v (q_callV F67 rfl rfl rfl (fun w1 H1=>hs' ▸ mac0_calls b B cb hb w1 (H1.sl0 hB) hcb)) rfl<|vl_v (q_move rfl) rfl<|vl_v (q_ext rfl rfl) rfl<|vl_v (q_ext rfl rfl) rfl ?_
 refine l_allocA zr33 rfl<|fun b3=>?_
 refine l_storeA 0 rfl rfl rfl sz33 (by simp only [zb,zu,zw,zi,za];omega) (by with_reducible first | exact bys_one _ | exact u32s_one _ | exact u64s_one _ | exact i64s_one _ | exact n64s_one _ | assumption) (by simp only [zs,zr,zm,za,zb,zu,zw,zi,zt,zd,zc,zn, *]<;>first | done | omega) ?_
 simp only [List.set_cons_zero,List.set_cons_succ]
 refine vl_v (q_assign rfl) rfl<|vl_nil<|th_n<|VC_seq<|VC_region<|vl_v (q_loads 0 U33 rfl rfl rfl sz33 (by simp only [zb,zu,zw,zi,za];omega)) rfl ?_
 refine l_storeA 1 rfl rfl rfl sz33 (by simp only [zb,zu,zw,zi,za];omega) (by with_reducible first | exact bys_one _ | exact u32s_one _ | exact u64s_one _ | exact i64s_one _ | exact n64s_one _ | assumption) (by simp only [zs,zr,zm,za,zb,zu,zw,zi,zt,zd,zc,zn, *]<;>first | done | omega) ?_
 simp only [List.set_cons_zero,List.set_cons_succ]
 refine vl_nil<|th_n<|VC_ret ?_
 refine ⟨_,resC1 1 rfl U33 rfl rfl rfl sz33 (by simp only [zb,zu,zw,zi,za];omega),?_⟩
 exact rfl
theorem pair_calls (b:List UInt8) (B:Option Addr) (m cb:Nat) (hm:m=b.length) (hb:b.length≤140737488355328) (w:World) (hB:SlAt w B (bys b)) (hcb:b.length≤cb) :
 Calls Tryz.prog 18 #[.slice B m cb] w fun e w'=>e=.returned (.agg (bys (pairB b)).toArray)∧Kept [] w w':=by
 have hsc:=fun w hs=>sum_calls b B m cb hm hb w hs hcb
 have hp:pairB b=sumB b++pubB (sumB b):=rfl
 obtain ⟨s,hs⟩:∃ s,sumB b=s:=⟨_,rfl⟩
 have ls:s.length=32:=by rw [← hs];exact sumB_length b
 rw [hs] at hsc hp
 unfold pubB at hp
 obtain ⟨p,hpp⟩:∃ p,kf (xm (sbit s) (lf (smallB 9)))=p:=⟨_,rfl⟩
 have lp:p.length=32:=by rw [← hpp];exact kf_length _
 rw [hpp] at hp
 rw [hp]
 have l64:(bys (s++p)).length=64:=by rw [bys_length,List.length_append];omega
 refine enter (n:=10) (R:=fun e L=>e=.returned (.agg (bys (s++p)).toArray)) [.slice B m cb] F18 rfl rfl rfl (St.refl w) ?_ (fun e w' L' h H=>⟨h,H.kept⟩)
 refine VC_seq<|VC_region<|l_allocA zr60 rfl<|fun b2=>vl_nil<|th_n<|VC_seq<|VC_region<|vl_v (q_move rfl) rfl<|vl_v (q_callV F53 rfl rfl rfl (fun w1 H1=>hsc w1 (H1.sl0 hB))) rfl<|l_allocA zr33 rfl<|fun b3=>l_storeA 0 rfl rfl rfl sz33 (by rw [bys_length];omega) (by with_reducible first | exact bys_one _ | exact u32s_one _ | exact u64s_one _ | exact i64s_one _ | exact n64s_one _ | assumption) (by simp only [List.length_append,List.length_replicate,bys_length,ls,lp];done) ?_
 simp only [List.set_cons_zero,List.set_cons_succ]
 refine vl_nil<|th_n<|VC_seq<|VC_drawV 3 [[],[],[1],[0,2],[3,2,0,1]] [[],[],[1],[0,1,2],[0,1,2,3]] rfl (by kernel_rfl)<|qv_v (q_loads 0 U33 rfl rfl rfl sz33 (by rw [bys_length];omega))<|qv_v (q_loads 0 U33 rfl rfl rfl sz33 (by rw [bys_length];omega))<|qv_v (q_callV F54 rfl rfl rfl (fun w1 H1=>base_calls s p ls hpp w1))<|qv_end<|VL.keep (kp [0,2,3,6,8] rfl)<|vl_v (q_buildS (tot:=64) (sizes:=[32,32]) (c':=bys (s++p)) (by kernel_rfl) rfl rfl rfl rfl (by simp only [List.map_cons,List.map_nil,cellsL,Value.cells,bys_length,ls,lp]) (by simp only [flatV,cellsL,Value.cells,List.map_cons,List.map_nil,List.flatten_cons,List.flatten_nil,List.append_nil,bys_append])) rfl<|l_storeA 1 rfl rfl rfl sz60 (by with_reducible assumption) (by with_reducible first | exact bys_one _ | exact u32s_one _ | exact u64s_one _ | exact i64s_one _ | exact n64s_one _ | assumption) (by simp only [List.length_append,List.length_replicate,bys_length,ls,lp];done) ?_
 simp only [List.set_cons_zero,List.set_cons_succ]
 refine vl_nil<|qn_n<|th_n<|VC_ret<|⟨_,resC1 1 rfl U60 rfl rfl rfl sz60 (by with_reducible assumption),?_⟩
 exact rfl
def comE (k:List UInt8):Nat:=if k=List.replicate 32 0 then 12 else 0
theorem com_calls (s p q:List UInt8) (hs:s.length=32) (hp:p.length=32) (hq:q.length=32) (w:World) :
 Calls Tryz.prog 87 #[.agg (bys (s++p)).toArray,.agg (bys q).toArray] w fun e w'=>e=.returned (.tuple #[.agg (bys (comB s q)).toArray,vN (comE (comB s q))])∧Kept [] w w':=by
 have hmc:=fun w=>mult_calls s q hs hq w
 have e:comB s q=kf (xm (sbit s) (lf q)):=rfl
 rw [e]
 obtain ⟨k,hk⟩:∃ k,kf (xm (sbit s) (lf q))=k:=⟨_,rfl⟩
 have lk:k.length=32:=by rw [← hk];exact kf_length _
 clear e
 rw [hk] at hmc ⊢
 clear hk
 have l64:(bys (s++p)).length=64:=by rw [bys_length,List.length_append];omega
 have lq:(bys q).length=32:=by rw [bys_length];exact hq
 have lbk:(bys k).length=32:=by rw [bys_length];exact lk
 have hpt:((bys (s++p)).drop 0).take 32=bys s:=by rw [List.drop_zero,bys_append,List.take_left' (by rw [bys_length];exact hs)]
 have lbs:(bys s).length=32:=by rw [bys_length];exact hs
 have lz:(bys (List.replicate 32 0)).length=32:=by rw [bys_length,List.length_replicate]
 refine enter (n:=16) (R:=fun e L=>e=.returned (.tuple #[.agg (bys k).toArray,vN (comE k)])) [.agg (bys (s++p)).toArray,.agg (bys q).toArray] F87 rfl rfl rfl (St.refl w) ?_ (fun e w' L' h H=>⟨h,H.kept⟩)
 refine VC_seq<|VC_region<|l_boxA rfl rfl<|fun b2=>l_boxA rfl rfl<|fun b3=>l_allocA zr33 rfl<|fun b4=>vl_v (q_assign rfl) rfl<|vl_nil<|th_n<|VC_seq<|VC_region<|vl_v (q_fldA fo60_0 (by decide) rfl rfl) rfl<|vl_v (q_loadsAt 2 U33 rfl rfl rfl sz33 hpt lbs) rfl ?_
 refine vl_v (q_loads 1 U33 rfl rfl rfl sz33 (by with_reducible assumption)) rfl<|vl_v (q_callV F19 rfl rfl rfl (fun w1 H1=>hmc w1)) rfl<|l_allocA zr33 rfl<|fun b6=>l_storeA 0 rfl rfl rfl sz33 (by with_reducible assumption) (by with_reducible first | exact bys_one _ | exact u32s_one _ | exact u64s_one _ | exact i64s_one _ | exact n64s_one _ | assumption) (by with_reducible assumption) ?_
 simp only [List.set_cons_zero,List.set_cons_succ]
 refine vl_nil<|th_n<|VC_seq<|VC_seq<|VC_region<|vl_v (q_loads 0 U33 rfl rfl rfl sz33 (by with_reducible assumption)) rfl<|vl_v (q_build (c':=bys (List.replicate 32 0)) rfl (by kernel_rfl)) rfl<|vl_v (q_eqB flat32 rfl rfl (fits_bys' lk) (fits_bys' (by simp))) rfl<|vl_nil<|th_n<|VC_cond rfl (fun ht13=>?_) (fun ht13=>?_)
 ·skip
  have ht13:=of_decide_eq_true ht13
  refine VC_seq<|VC_region<|vl_v (q_loads 0 U33 rfl rfl rfl sz33 (by with_reducible assumption)) rfl<|l_storeA 1 rfl rfl rfl sz33 (by with_reducible assumption) (by with_reducible first | exact bys_one _ | exact u32s_one _ | exact u64s_one _ | exact i64s_one _ | exact n64s_one _ | assumption) (by with_reducible assumption) ?_
  simp only [List.set_cons_zero,List.set_cons_succ]
  refine vl_v (q_assign rfl) rfl<|vl_nil<|th_n<|VC_ret<|th_r<|⟨_,resC2 1 rfl U33 rfl rfl rfl sz33 (by with_reducible assumption) rfl,?_⟩
  exact congrArg (fun n=>Ending.returned (Value.tuple #[.agg (bys k).toArray,vN n])) (by unfold comE;first | rw [if_pos ht13] | rw [if_neg ht13])
 ·skip
  have ht13:=of_decide_eq_false ht13
  refine VC_skip<|th_n<|VC_seq<|VC_region<|vl_v (q_loads 0 U33 rfl rfl rfl sz33 (by with_reducible assumption)) rfl<|l_storeA 1 rfl rfl rfl sz33 (by with_reducible assumption) (by with_reducible first | exact bys_one _ | exact u32s_one _ | exact u64s_one _ | exact i64s_one _ | exact n64s_one _ | assumption) (by with_reducible assumption) ?_
  simp only [List.set_cons_zero,List.set_cons_succ]
  refine vl_v (q_assign rfl) rfl<|vl_nil<|th_n<|VC_ret<|⟨_,resC2 1 rfl U33 rfl rfl rfl sz33 (by with_reducible assumption) rfl,?_⟩
  exact congrArg (fun n=>Ending.returned (Value.tuple #[.agg (bys k).toArray,vN n])) (by unfold comE;first | rw [if_pos ht13] | rw [if_neg ht13])
end Go.Proofs.YtfpdnpppcoomnaaGreat
namespace Go.Proofs.YtfpdnpppcoomnaaGreat
open Go Go.RowKit Go.PBYtfpdnpppcoomnaaGreat
theorem disable (w:World):(callFunc 133 #[]).run Tryz.prog w=.ok (.value (.tuple #[])) w:=run_call_mark0 F133 (by kernel_rfl) (by kernel_rfl) (by kernel_rfl) .disable (by kernel_rfl) w
theorem enable (w:World):(callFunc 135 #[]).run Tryz.prog w=.ok (.value (.tuple #[])) w:=run_call_mark0 F135 (by kernel_rfl) (by kernel_rfl) (by kernel_rfl) .enable (by kernel_rfl) w
theorem acquire (a:Addr) (w:World):(callFunc 136 #[.pointer (some a)]).run Tryz.prog w=.ok (.value (.tuple #[])) w:=run_call_marked F136 (by kernel_rfl) (by kernel_rfl) (by kernel_rfl) .acquire (by kernel_rfl) a w
theorem releaseMerge (a:Addr) (w:World):(callFunc 138 #[.pointer (some a)]).run Tryz.prog w=.ok (.value (.tuple #[])) w:=run_call_marked F138 (by kernel_rfl) (by kernel_rfl) (by kernel_rfl) .releaseMerge (by kernel_rfl) a w
theorem store_deferred (a:Addr) (x:Value) (u:FrameMode) (w:World) (hc:w.cell? a=some x) (hz:w.frozen? a=false) :
 CallsD Tryz.prog 127 #[.pointer (some a),.bool true] u w fun e u' w'=>u'=u∧(e=.returned (.tuple #[])∧w'=w.drew.setCell a (.int .u32 1)):=by
 have hc':w.drew.cell? a=some x:=by go_simp
 have hz':w.drew.frozen? a=false:=by go_simp
 have hst:=run_call_store (P:=Tryz.prog) F131 (by kernel_rfl) (by kernel_rfl) (by kernel_rfl) (by kernel_rfl) (k:=.u32) (y:=1) hc' hz'
 go_enter_d F127,Tryz.ntmps127
 go_wp2
 go_region_calls
 all_goals (go_end0;exact ⟨rfl,rfl⟩)
theorem unlock_deferred (a:Addr) (u:FrameMode) (w:World) (hc:w.cell? a=some (.int .i32 1)) (hz:w.frozen? a=false) :
 CallsD Tryz.prog 126 #[.pointer (some a)] u w fun e u' w'=>u'=u∧(e=.returned (.tuple #[])∧w'=w.setCell a (.int .i32 0)):=by
 have hd:=disable
 have he:=enable
 have hr:=releaseMerge
 have hadd:=run_call_add (P:=Tryz.prog) F139 (by kernel_rfl) (by kernel_rfl) (by kernel_rfl) .i32 (by kernel_rfl) (y := -1) (s:=0) hc hz (by simp [go_sem];rfl)
 have hcv:=run_convert_to_unsafe (P:=Tryz.prog) (src:=239) (dst:=243) U239 U243 (by kernel_rfl) hc
 go_enter_d F126,Tryz.ntmps126
 go_wp2
 go_end0
 go_wp2
 go_end0
 exact ⟨rfl,rfl⟩
theorem lock_free (a:Addr) (w:World) (hc:w.cell? a=some (.int .i32 0)) (hz:w.frozen? a=false) :
 Calls Tryz.prog 125 #[.pointer (some a)] w fun e w'=>e=.returned (.tuple #[])∧w'=w.setCell a (.int .i32 1):=by
 have hd:=disable
 have he:=enable
 have ha:=acquire
 have hcas:=run_call_cas_hit (P:=Tryz.prog) F134 (by kernel_rfl) (by kernel_rfl) (by kernel_rfl) .i32 (by kernel_rfl) (y:=1) hc hz
 have hc':(w.setCell a (.int .i32 1)).cell? a=some (.int .i32 1):=World.cell?_setCell_same w a _ hc
 have hcv:=run_convert_to_unsafe (P:=Tryz.prog) (src:=239) (dst:=243) U239 U243 (by kernel_rfl) hc'
 go_enter F125,Tryz.ntmps125
 go_wp2
 first | go_end0 | (simp only [Exit.inBlock,Exit.then];refine bodyPost_ret (results_none rfl _ _ _) rfl ?_) | refine bodyPost_ret (results_none rfl _ _ _) rfl ?_
 go_wp2
 go_end0
 exact ⟨rfl,rfl⟩
theorem done_load (a:Addr) (k:Nat) (w:World) (hc:w.cell? a=some (.int .u32 (k:Int))) :
 Calls Tryz.prog 119 #[.pointer (some a)] w fun e w'=>e=.returned (.bool ((k:Int) != 0))∧w'=w:=by
 have hl:=run_call_load (P:=Tryz.prog) F124 (by kernel_rfl) (by kernel_rfl) (by kernel_rfl) .u32 (by kernel_rfl) (w:=w) (a:=a) (x:=(k:Int)) hc
 go_enter F119,Tryz.ntmps119
 go_wp2
 exact bodyPost_ret (results_tmp rfl _ _ _) rfl ⟨rfl,rfl⟩
end Go.Proofs.YtfpdnpppcoomnaaGreat
namespace Go.PBYtfpdnpppcoomnaaGreat
open Go Go.RowKit
section
variable {P : Program} {n : Nat} {S : List Nat} {w0 w : World} {env : Env} {L : List Res} {Q : Exit → Act → World → Prop} {ops : Array Oper} {rest : List Oper}
variable {d : Tmp} {dst : Option Tmp} {ty : TypeId} {pos : String} {af : Array Edge} {g : Option (Nat × Bool)} {o : Oper}
theorem St.setCell {b j:Nat} {T:TypeId} {c:List Value} {v:Value} (k:Nat) (H:St S w0 L w) (hk:L[k]?=some (.blk b T c)) (hj:j<c.length):St S w0 (L.set k (.blk b T (c.set j v))) (w.setCell ⟨b,j,none⟩ v):=by
 obtain ⟨fz,h,f⟩:=H.blk hk
 rw [setCell_eq_setRow w b j c.toArray T fz v h]
 have e:c.toArray.setIfInBounds j v=(c.set j v).toArray:=by simp
 rw [e]
 exact H.change hk (grownBy_setRow w b _) (setRow_blk ⟨fz,h,f⟩ (by simp)) (fun b' hb'=>.inl hb')
theorem St.unfrozen {b j:Nat} {T:TypeId} {c:List Value} {k:Nat} (H:St S w0 L w) (hk:L[k]?=some (.blk b T c)) (hj:j<c.length):w.frozen? ⟨b,j,none⟩=false:=by
 obtain ⟨fz,h,f⟩:=H.blk hk
 simp only [World.frozen?,h]
 rcases f with f | f
 ·simp;omega
 ·simp;omega
theorem opw_q {K:Act→World→Prop} {v:Value} (hq:QT P n S w0 o env L (.val v)) {a:Act} (hm:Models n env { a with defers:=[] }) (H:St S w0 L w) (hd:dstOk n o.dst=true)
 (h:∀ w',St S w0 L w'→Models n (ext o.dst v env) { a.put o.dst v with defers:=[] }→K (a.put o.dst v) w'):o.wp P a w K Q:=by
 have hw:=hq.run { a with defers:=[] } w hm H
 unfold Oper.wp at hw ⊢
 have e:(execOp ({ a with defers:=[] }:Act).eval o)=execOp a.eval o:=rfl
 rw [e] at hw
 refine upon_imp hw ?_ ?_
 ·rintro u w' ⟨v',h1,h2,h3,h4⟩
  have h3:v'=v:=h3
  subst h3
  have hp:({ a with defers:=[] }:Act).put o.dst u={ a.put o.dst u with defers:=[] }:=by cases o.dst<;>rfl
  have hp2:({ a with defers:=[] }:Act).put o.dst v'={ a.put o.dst v' with defers:=[] }:=by cases o.dst<;>rfl
  have e1:a.put o.dst u=a.put o.dst v':=by
   rw [hp,hp2] at h1
   have h5:=congrArg Act.tmps h1
   simp only at h5
   have h6:(a.put o.dst u).defers=(a.put o.dst v').defers:=by cases o.dst<;>rfl
   cases hx:a.put o.dst u with
   | mk t1 d1=>cases hy:a.put o.dst v' with
    | mk t2 d2=>rw [hx,hy] at h5 h6;simp only at h5 h6;rw [h5,h6]
  rw [e1]
  refine h w' ?_ ?_
  ·have:=H.join h4
   simpa [Sp.res] using this
  ·have:=hm.put (dst:=o.dst) hd v'
   rwa [hp2] at this
 ·rintro e w' ⟨v',h1,_⟩
  have h5:=congrArg Act.defers h1
  rw [put_defs,put_defs] at h5
  have h6:=congrArg List.length h5
  simp at h6
theorem put_models {a:Act} {v:Value} (hm:Models n env { a with defers:=[] }) (hd:dstOk n dst=true):Models n (ext dst v env) { a.put dst v with defers:=[] }:=by
 have:=hm.put (dst:=dst) hd v
 have hp2:({ a with defers:=[] }:Act).put dst v={ a.put dst v with defers:=[] }:=by cases dst<;>rfl
 rwa [hp2] at this
theorem opw_defer {K:Act→World→Prop} {a:Act} {f:FuncId} {xs:Array Operand} {ats:Array TypeId} {args:List Value} (hx:evalsE env xs.toList=some args) (hm:Models n env { a with defers:=[] })
 (h:K { a with defers:={ target:=.fn (.func f) #[],args:=args.toArray }::a.defers } w):Oper.wp P { dst:=none,op:=.defer { callee:=.value (.func f),args:=xs,argTypes:=ats },type:=ty,pos,after:=af,guard:=g } a w K Q:=by
 have e0:xs.toList.map a.eval=args:=hm.evals hx
 have e2:xs.map a.eval=args.toArray:=by
  rw [← e0]
  apply Array.ext'
  simp
 have e:(execOp a.eval { dst:=none,op:=.defer { callee:=.value (.func f),args:=xs,argTypes:=ats },type:=ty,pos,after:=af,guard:=g }).run P w=.ok (.defer { target:=.fn (.func f) #[],args:=args.toArray }) w:=by
  rw [← e2]
  simp [go_sem,Act.eval]
 unfold Oper.wp
 rw [e,Oper.upon_defer]
 exact h
theorem execCloB {a:Act} {dst:Option Tmp} {f:FuncId} {xo:Operand} {xs:Array Operand} {ats:Array TypeId} {first:Array Value} (h:a.eval xo=.func (.func f) first #[]) :
 execOp a.eval { dst,op:=.call { callee:=.value xo,args:=xs,argTypes:=ats },type:=ty,pos,after:=af,guard:=g }=callFunc f (first++xs.map a.eval++#[]):=by
 have e1:∀ c:Call,c.callee=.value xo→resolve a.eval c ty=pure { target:=.fn (.func f) #[],args:=first++c.args.map a.eval }:=by
  intro c hc
  unfold resolve
  rw [hc]
  simp only [h]
  rfl
 show (do let d ← resolve a.eval { callee:=.value xo,args:=xs,argTypes:=ats } ty;invoke d.target d.args)=_
 rw [e1 _ rfl]
 rfl
theorem opw_cloB {a:Act} {w:World} {dst:Option Tmp} {Qx:Act→World→Prop} {f:FuncId} {fn:Func} {xo:Operand} {xs:Array Operand} {ats:Array TypeId} {first:List Value} (args:List Value) (hf:P.funcs[f]?=some fn) (hb:fn.body.isSome=true) (hn:(fn.name == "runtime.NumGoroutine")=false) (hxo:a.eval xo=.func (.func f) first.toArray #[]) (hargs:first++xs.toList.map a.eval=args)
 (hc:Calls P f args.toArray w (fun e w'=>∃ v,e=.returned v∧Qx (a.put dst v) w')):Oper.wp P { dst,op:=.call { callee:=.value xo,args:=xs,argTypes:=ats },type:=ty,pos,after:=af,guard:=g } a w Qx Q:=by
 unfold Oper.wp
 have hbn:¬ fn.body=none:=by intro h;rw [h] at hb;cases hb
 have hn':¬ fn.name = "runtime.NumGoroutine" := by intro h;rw [h] at hn;simp at hn
 have e1:(callFunc f args.toArray).run P w=.ok (.enter f args.toArray) w:=by
  simp [callFunc,hf,hn',hbn]
 have e2:(first.toArray++xs.map a.eval++#[]:Array Value)=args.toArray:=by
  rw [← hargs]
  apply Array.ext'
  simp
 rw [execCloB hxo,e2,e1]
 refine hc.mono ?_
 rintro e w' ⟨v,rfl,h⟩
 exact h
end
end Go.PBYtfpdnpppcoomnaaGreat
namespace Go.Proofs.YtfpdnpppcoomnaaGreat
open Go.RowKit Go.PBYtfpdnpppcoomnaaGreat
theorem slow_calls {S:List Nat} {w0:World} {L:List Res} (b o:Nat) (T:TypeId) (c c':List Value) (F:FuncId) (fnF:Func) (first:List Value) (hF:Tryz.prog.funcs[F]?=some fnF) (hb:fnF.body.isSome=true) (hn:(fnF.name == "runtime.NumGoroutine")=false)
 (hc0:c[o]?=some (.int .u32 0)) (hc1:c[o+1]?=some (.int .i32 0)) (h0':c'[o]?=some (.int .u32 0)) (h1':c'[o+1]?=some (.int .i32 1))
 (hf:∀ w,St S w0 (.blk b T (c.set (o+1) (.int .i32 1))::L) w→Calls Tryz.prog F first.toArray w (fun e w'=>e=.returned (.tuple #[])∧St S w0 (.blk b T c'::L) w')) (w:World) (H:St S w0 (.blk b T c::L) w) :
 Calls Tryz.prog 120 #[vP b o,.func (.func F) first.toArray #[]] w (fun e w'=>e=.returned (.tuple #[])∧St S w0 (.blk b T ((c'.set o (.int .u32 1)).set (o+1) (.int .i32 0))::L) w'):=by
 have hl0:o<c.length:=(List.getElem?_eq_some_iff.1 hc0).1
 have hl1:o+1<c.length:=(List.getElem?_eq_some_iff.1 hc1).1
 have hl0':o<c'.length:=(List.getElem?_eq_some_iff.1 h0').1
 have hl1':o+1<c'.length:=(List.getElem?_eq_some_iff.1 h1').1
 refine calls_of_wp_defers F120 rfl ?_
 have hm0:Models 21 (par 0 [vP b o,.func (.func F) first.toArray #[]]) { tmps:=#[vP b o,.func (.func F) first.toArray #[]]++Array.replicate (Tryz.f120.ntmps - #[vP b o,.func (.func F) first.toArray #[]].size) undef,defers:=[] }:=Models.enter 21 [vP b o,.func (.func F) first.toArray #[]] (by simp)
 refine wp_seq (wp_mono ((?_:VC Tryz.prog 21 S w0 _ (fun e env L'=>e=.normal∧PBYtfpdnpppcoomnaaGreat.look 0 env=some (vP b o)∧PBYtfpdnpppcoomnaaGreat.look 1 env=some (.func (.func F) first.toArray #[])∧L'=.blk b T (c.set (o+1) (.int .i32 1))::L) _ (.blk b T c::L)).run _ w hm0 H) ?_)
 ·refine VC_region<|vl_v (q_move rfl) rfl<|vl_v (q_nilck rfl) rfl<|vl_v (q_fldA fo135_2 (by decide) rfl rfl) rfl<|l_callE F125 rfl rfl rfl (fun w1 H1=>(lock_free ⟨b,o+1,none⟩ w1 ((H1.cell (k:=0) rfl _).trans hc1) (St.unfrozen (k:=0) H1 rfl hl1)).mono fun e w' h=>⟨h.1,h.2 ▸ St.setCell 0 H1 rfl hl1⟩) rfl ?_
  exact vl_nil<|⟨rfl,rfl,rfl,rfl⟩
 rintro e a w1 ⟨env,L1,hm,H1,rfl,k0,k1,rfl⟩
 have hda:=hm.defers
 have hm':Models 21 env { a with defers:=[] }:=by cases a;simp only at hda;subst hda;exact hm
 refine wp_seq<|wp_region_lit<|wpl_want rfl (opw_q (q_move (x:=.tmp 0) k0) hm' H1 rfl fun w2 H2 hm2=>?_)
 refine wpl_want rfl (opw_q (q_nilck rfl) hm2 H2 rfl fun w3 H3 hm3=>?_)
 refine wpl_want rfl (opw_q (q_fldA fo135_2 (by decide) rfl rfl) hm3 H3 rfl fun w4 H4 hm4=>?_)
 refine wpl_want rfl (opw_defer (args:=[vP b (o+1)]) rfl hm4 ?_)
 unfold wpList
 have hs:=hm4.sub (Sub.cons (s:=0) (v:=vP b o) k0 (Sub.cons (s:=1) (v:=.func (.func F) first.toArray #[]) k1 (Sub.nil _)))
 refine (fun (h:∀ a:Act,Models 21 [(0,vP b o),(1,.func (.func F) first.toArray #[])] { a with defers:=[] }→a.defers=[{ target:=.fn (.func 126) #[],args:=#[vP b (o+1)] }]→Code.wp Tryz.prog _ _ a w4)=>h _ ?_ ?_) ?_
 ·exact ⟨hs.size,rfl,hs.get⟩
 ·simp [Act.put,hda]
 clear hs hm4 hm3 hm2 hm' hm hda k0 k1
 intro a hm hd
 refine wp_seq<|wp_region_lit<|wpl_want rfl (opw_q (q_move rfl) hm H4 rfl fun w5 H5 hm5=>?_)
 refine wpl_want rfl (opw_q (q_nilck rfl) hm5 H5 rfl fun w6 H6 hm6=>?_)
 refine wpl_want rfl (opw_q (q_fldA fo135_1 (by decide) rfl rfl) hm6 H6 rfl fun w7 H7 hm7=>?_)
 have hcl:w7.cell? ⟨b,o,none⟩=some (.int .u32 ((0:Nat):Int)):=by
  rw [H7.cell (k:=0) rfl,List.getElem?_set_ne (by omega)]
  exact hc0
 refine wpl_want rfl (opw_call [vP b o] F119 rfl rfl (hm7.evals (xs:=[.tmp 13]) rfl) ((done_load ⟨b,o,none⟩ 0 w7 hcl).mono fun e w8 h=>⟨_,h.1,?_⟩))
 obtain ⟨_,rfl⟩:=h
 refine wpl_want rfl (opw_q (q_not rfl) (put_models hm7 rfl) H7 rfl fun w9 H9 hm9=>?_)
 unfold wpList
 have hs:=hm9.sub (Sub.cons (s:=0) (v:=vP b o) rfl (Sub.cons (s:=1) (v:=.func (.func F) first.toArray #[]) rfl (Sub.cons (s:=15) (v:=.bool true) rfl (Sub.nil _))))
 refine (fun (h:∀ a:Act,Models 21 [(0,vP b o),(1,.func (.func F) first.toArray #[]),(15,.bool true)] { a with defers:=[] }→a.defers=[{ target:=.fn (.func 126) #[],args:=#[vP b (o+1)] }]→Code.wp Tryz.prog _ _ a w9)=>h _ ?_ ?_) ?_
 ·exact ⟨hs.size,rfl,hs.get⟩
 ·exact hd
 clear hs hm9 hm7 hm6 hm5 hm hd hcl
 intro a hm hd
 refine wp_cond_split (t:=true) (hm.eval (x:=.tmp 15) rfl) (fun _=>?_) (fun h=>by cases h)
 refine wp_seq<|wp_region_lit<|wpl_want rfl (opw_q (q_move rfl) hm H9 rfl fun w5 H5 hm5=>?_)
 refine wpl_want rfl (opw_q (q_nilck rfl) hm5 H5 rfl fun w6 H6 hm6=>?_)
 refine wpl_want rfl (opw_q (q_fldA fo135_1 (by decide) rfl rfl) hm6 H6 rfl fun w7 H7 hm7=>?_)
 refine wpl_want rfl (opw_defer (args:=[vP b o,.bool true]) rfl hm7 ?_)
 unfold wpList
 have hs:=hm7.sub (Sub.cons (s:=0) (v:=vP b o) rfl (Sub.cons (s:=1) (v:=.func (.func F) first.toArray #[]) rfl (Sub.nil _)))
 refine (fun (h:∀ a:Act,Models 21 [(0,vP b o),(1,.func (.func F) first.toArray #[])] { a with defers:=[] }→a.defers=[{ target:=.fn (.func 127) #[],args:=#[vP b o,.bool true] },{ target:=.fn (.func 126) #[],args:=#[vP b (o+1)] }]→Code.wp Tryz.prog _ _ a w7)=>h _ ?_ ?_) ?_
 ·exact ⟨hs.size,rfl,hs.get⟩
 ·simp [Act.put,hd]
 clear hs hm7 hm6 hm5 hm hd
 intro a hm hd
 refine wp_region_lit<|wpl_want rfl (opw_q (q_move rfl) hm H7 rfl fun w10 H10 hm10=>?_)
 refine wpl_want rfl (opw_cloB first hF hb hn (first:=first) (hm10.eval (x:=.tmp 19) rfl) (by simp) ((hf w10 H10).mono fun e w11 h=>⟨_,h.1,?_⟩))
 obtain ⟨_,H11⟩:=h
 unfold wpList
 show Leaves _ _ _ _ _ _ _
 rw [show ((a.put (some 19) (.func (.func F) first.toArray #[])).put (some 20) (.tuple #[])).defers=a.defers from rfl,hd]
 refine leaves_cons (f:=127) (args:=#[vP b o,.bool true]) (by simp) (by simp [go_sem])<|(store_deferred ⟨b,o,none⟩ _ .returning w11 ((H11.cell (k:=0) rfl _).trans h0') (St.unfrozen (k:=0) H11 rfl hl0')).mono ?_
 rintro e u' w12 ⟨rfl,rfl,rfl⟩
 have H12:St S w0 (.blk b T (c'.set o (.int .u32 1))::L) _:=St.setCell 0 H11.drew rfl hl0'
 refine leaves_cons (f:=126) (args:=#[vP b (o+1)]) (by simp [settle]) (by simp [go_sem]) ?_
 refine (unlock_deferred ⟨b,o+1,none⟩ _ _ ((H12.cell (k:=0) rfl _).trans (by rw [List.getElem?_set_ne (by omega)];exact h1')) (St.unfrozen (k:=0) H12 rfl (by simp;omega))).mono ?_
 rintro e u' w13 ⟨rfl,rfl,rfl⟩
 have H13:St S w0 (.blk b T ((c'.set o (.int .u32 1)).set (o+1) (.int .i32 0))::L) _:=St.setCell 0 H12 rfl (by simp;omega)
 exact ⟨_,results_none rfl _ _ _,rfl,H13⟩
end Go.Proofs.YtfpdnpppcoomnaaGreat
namespace Go.PBYtfpdnpppcoomnaaGreat
open Go Go.RowKit
section
variable {P : Program} {n : Nat} {S : List Nat} {w0 : World} {Q : QE} {env : Env} {L L' : List Res} {ops : Array Oper} {rest : List Oper}
variable {d : Tmp} {dst : Option Tmp} {ty : TypeId} {pos : String} {af : Array Edge} {g : Option (Nat × Bool)}
theorem l_panic {x:Operand} {T:TypeId} {v:Value} (hx:evalE env x=some (.iface T v)) (h:Q (.panic [{ v:=.iface T v,recovered:=false }]) env L) :
 VL P n S w0 ops Q ({ dst:=dst,op:=.panic x,type:=ty,pos,after:=af,guard:=none }::rest) env L :=
 vl_run trivial fun a w hm H=>by
  unfold Oper.wp
  have e:(execOp a.eval { dst:=dst,op:=.panic x,type:=ty,pos,after:=af,guard:=none }).run P w=.halt (.panic (.iface T v)) w:=by
   simp [execOp,hm.eval hx,Instr.panic,goPanic]
  rw [e]
  exact ⟨env,L,hm,H,h⟩
theorem q_iface {T:TypeId} {x:Operand} {k:IntKind} {v:Value} (hu:P.underlying T=some (.int k)) (hx:evalE env x=some v) :
 QT P n S w0 { dst:=some d,op:=.makeInterface T x,type:=ty,pos,after:=af,guard:=g } env L (.val (.iface T v)) :=
 q_of rfl fun a w hm H=>by simp [execOp,hm.eval hx,Instr.makeInterface,underlying,hu]
theorem l_storeG {t:TypeId} {x y:Operand} {b j sz:Nat} {T:TypeId} {c vs:List Value} (k:Nat) (hx:evalE env x=some (vP b j)) (hy:evalE env y=some (.agg vs.toArray)) (hk:L[k]?=some (.blk b T c)) (hi:(P.info? t).map (·.size)=some sz) (hs:vs.length=sz) (h1:∀ u∈vs,u.oneCell'=true) (hl:j+sz≤c.length)
 (h:VL P n S w0 ops Q rest env (L.set k (.blk b T (splice c j vs)))):VL P n S w0 ops Q ({ dst:=none,op:=.store t x y,type:=ty,pos,after:=af,guard:=none }::rest) env L :=
 l_storeAt k hx hy hk hi rfl hs h1 hl h
theorem opw_callX {a:Act} {w:World} {K:Act→World→Prop} {QQ:Exit→Act→World→Prop} {f:FuncId} {fn:Func} {xs:Array Operand} {ats:Array TypeId} (args:List Value) (ch:List PanicEntry) (hf:P.funcs[f]?=some fn) (hb:fn.body.isSome=true) (hn:(fn.name == "runtime.NumGoroutine")=false) (hargs:xs.toList.map a.eval=args)
 (hc:Calls P f args.toArray w (fun e w'=>e=.panicked ch∧QQ (.panic ch) a w')):Oper.wp P { dst,op:=.call { callee:=.value (.func f),args:=xs,argTypes:=ats },type:=ty,pos,after:=af,guard:=g } a w K QQ:=by
 unfold Oper.wp
 have hbn:¬ fn.body=none:=by intro h;rw [h] at hb;cases hb
 have hn':¬ fn.name = "runtime.NumGoroutine" := by intro h;rw [h] at hn;simp at hn
 have e1:(callFunc f args.toArray).run P w=.ok (.enter f args.toArray) w:=by
  simp [callFunc,hf,hn',hbn]
 have e2:(#[]++xs.map a.eval++#[]:Array Value)=args.toArray:=by
  rw [← hargs]
  apply Array.ext'
  simp
 rw [execOp_call_go,e2,e1]
 refine hc.mono ?_
 rintro e w' ⟨rfl,h⟩
 exact h
theorem opw_cloX {a:Act} {w:World} {dst:Option Tmp} {Qx:Act→World→Prop} {QQ:Exit→Act→World→Prop} {f:FuncId} {fn:Func} {xo:Operand} {xs:Array Operand} {ats:Array TypeId} {caps:Array Value} (args:List Value) {ch:List PanicEntry} (hf:P.funcs[f]?=some fn) (hb:fn.body.isSome=true) (hn:(fn.name == "runtime.NumGoroutine")=false) (hxo:a.eval xo=.func (.func f) #[] caps) (hargs:xs.toList.map a.eval++caps.toList=args)
 (hc:Calls P f args.toArray w (fun e w'=>e=.panicked ch∧QQ (.panic ch) a w')):Oper.wp P { dst,op:=.call { callee:=.value xo,args:=xs,argTypes:=ats },type:=ty,pos,after:=af,guard:=g } a w Qx QQ:=by
 unfold Oper.wp
 have hbn:¬ fn.body=none:=by intro h;rw [h] at hb;cases hb
 have hn':¬ fn.name = "runtime.NumGoroutine" := by intro h;rw [h] at hn;simp at hn
 have e1:(callFunc f args.toArray).run P w=.ok (.enter f args.toArray) w:=by
  simp [callFunc,hf,hn',hbn]
 have e2:(#[]++xs.map a.eval++caps:Array Value)=args.toArray:=by
  rw [← hargs]
  apply Array.ext'
  simp
 rw [execClo hxo,e2,e1]
 refine hc.mono ?_
 rintro e w' ⟨rfl,h⟩
 exact h
theorem l_callX {f:FuncId} {fn:Func} {xs:Array Operand} {ats:Array TypeId} {args:List Value} {ch:List PanicEntry} (hf:P.funcs[f]?=some fn) (hb:fn.body.isSome=true) (hn:(fn.name == "runtime.NumGoroutine")=false) (hx:evalsE env xs.toList=some args)
 (hc:∀ w,St S w0 L w→Calls P f args.toArray w (fun e w'=>e=.panicked ch∧St S w0 L' w')) (h:Q (.panic ch) env L') :
 VL P n S w0 ops Q ({ dst:=dst,op:=.call { callee:=.value (.func f),args:=xs,argTypes:=ats },type:=ty,pos,after:=af,guard:=none }::rest) env L :=
 vl_run trivial fun a w hm H=>opw_callX args ch hf hb hn (hm.evals hx) ((hc w H).mono fun e w' ⟨h1,h2⟩=>⟨h1,env,L',hm,h2,h⟩)
theorem l_callXx {ι:Type} {M:ι→List Res} {f:FuncId} {fn:Func} {xs:Array Operand} {ats:Array TypeId} {args:List Value} {ch:List PanicEntry} (hf:P.funcs[f]?=some fn) (hb:fn.body.isSome=true) (hn:(fn.name == "runtime.NumGoroutine")=false) (hx:evalsE env xs.toList=some args)
 (hc:∀ w,St S w0 L w→Calls P f args.toArray w (fun e w'=>e=.panicked ch∧∃ x,St S w0 (M x) w')) (h:∀ x,Q (.panic ch) env (M x)) :
 VL P n S w0 ops Q ({ dst:=dst,op:=.call { callee:=.value (.func f),args:=xs,argTypes:=ats },type:=ty,pos,after:=af,guard:=none }::rest) env L :=
 vl_run trivial fun a w hm H=>opw_callX args ch hf hb hn (hm.evals hx) ((hc w H).mono fun e w' ⟨h1,x,h2⟩=>⟨h1,env,M x,hm,h2,h x⟩)
theorem l_callF {ι:Type} {M:ι→List Res} {v:Value} {f:FuncId} {fn:Func} {xs:Array Operand} {ats:Array TypeId} {args:List Value} (hf:P.funcs[f]?=some fn) (hb:fn.body.isSome=true) (hn:(fn.name == "runtime.NumGoroutine")=false) (hx:evalsE env xs.toList=some args)
 (hc:∀ w,St S w0 L w→Calls P f args.toArray w (fun e w'=>e=.returned v∧∃ x,St S w0 (M x) w')) (hd:dstOk n (some d)=true) (h:∀ x,VL P n S w0 ops Q rest ((d,v)::env) (M x)) :
 VL P n S w0 ops Q ({ dst:=some d,op:=.call { callee:=.value (.func f),args:=xs,argTypes:=ats },type:=ty,pos,after:=af,guard:=none }::rest) env L :=
 l_call (F:=fun u N=>u=v∧∃ x,N=M x) hf hb hn hx (fun w H=>(hc w H).mono fun e w' ⟨h1,x,h2⟩=>⟨v,M x,h1,⟨rfl,x,rfl⟩,h2⟩) hd (by rintro u N ⟨rfl,x,rfl⟩;exact h x)
theorem qn_p {ch:List PanicEntry} (h:∀ env,Q (.panic ch) env L):QN Q (.panic ch) env L:=h
theorem qx_call {Z:List PanicEntry→World→Prop} {A B:List Res} {f:FuncId} {fn:Func} {xs:Array Operand} {ats:Array TypeId} {args:List Value} {ch:List PanicEntry} (hf:P.funcs[f]?=some fn) (hb:fn.body.isSome=true) (hn:(fn.name == "runtime.NumGoroutine")=false) (hx:evalsE env xs.toList=some args)
 (hc:∀ w R,St S w0 (A++(B++R)) w→Calls P f args.toArray w (fun e w'=>e=.panicked ch∧Z ch w')) :
 QPX P n S w0 Z { dst:=dst,op:=.call { callee:=.value (.func f),args:=xs,argTypes:=ats },type:=ty,pos,after:=af,guard:=none } env A B :=
 ⟨fun a w R hm H=>opw_callX args ch hf hb hn (hm.evals hx) ((hc w R H).mono fun e w' ⟨h1,h2⟩=>⟨h1,h2⟩)⟩
end
abbrev bodyR (T:TypeId) (b:List UInt8) (x:Option Addr × Nat):Res:=.row T 1 (.slice x.1 b.length x.2) b.length (bys b)
section
variable {P : Program} {n : Nat} {S : List Nat} {w0 : World} {Z : List PanicEntry → World → Prop} {ops : Array Oper} {L : List Res} {d : Tmp} {ty : TypeId} {pos : String} {af : Array Edge} {F : (Xs → Xs → Env) → AkP → Prop} {k : Nat} {C ti to xi xo : List Nat} {Ts : List T5} {E : Xs → Xs → Env} {A : AkP} {rest : List Oper}
theorem qp_callE {dst:Option Tmp} {f:FuncId} {fn:Func} {xs_:Array Operand} {ats:Array TypeId} {args:Xs→Xs→List Value} (Fs:Xs→Xs→Value→Value→Prop) (N:Xs→Xs→Value→Value→List Res) (hf:P.funcs[f]?=some fn) (hb:fn.body.isSome=true) (hn:(fn.name == "runtime.NumGoroutine")=false)
 (hx:∀ xs gs:Xs,factsAP C xs gs A→evalsE (E xs gs) xs_.toList=some (args xs gs))
 (hc:∀ xs gs:Xs,factsAP C xs gs A→∀ R w,St S w0 ((selI (fun j=>ti.contains j) 0 L++ownsA (fun j=>to.contains j) xs gs A)++((selI (fun j=>xi.contains j) 0 L++ownsA (fun j=>xo.contains j) xs gs A)++R)) w →
  Calls P f (args xs gs).toArray w fun e w'=>∃ v g,e=.returned v∧(dst=none→v=undef)∧Fs xs gs v g∧St S w0 (N xs gs v g++((selI (fun j=>xi.contains j) 0 L++ownsA (fun j=>xo.contains j) xs gs A)++R)) w')
 (h:quietsP P n S w0 Z ops L F (k+1) rest Ts (fun xs gs=>ext dst (xs k) (E xs gs)) (A++[(k,C,Fs,N)])) :
 quietsP P n S w0 Z ops L F k ({ dst:=dst,op:=.call { callee:=.value (.func f),args:=xs_,argTypes:=ats },type:=ty,pos,after:=af,guard:=none }::rest) ((C,ti,to,xi,xo)::Ts) E A :=
 qp_of (s:=.any Fs N) (fun xs gs hf'=>.inl ⟨trivial,⟨fun a w R hm H=>opw_call _ hf hb hn (hm.evals (hx xs gs hf')) ((hc xs gs hf' R w H).mono fun e w' ⟨v,g,h1,h2,h3,h4⟩=>⟨v,h1,v,g,rfl,h2,h3,h4⟩)⟩⟩) h
theorem qp_callX {dst:Option Tmp} {f:FuncId} {fn:Func} {xs_:Array Operand} {ats:Array TypeId} {args:Xs→Xs→List Value} {ch:List PanicEntry} (hf:P.funcs[f]?=some fn) (hb:fn.body.isSome=true) (hn:(fn.name == "runtime.NumGoroutine")=false)
 (hx:∀ xs gs:Xs,factsAP C xs gs A→evalsE (E xs gs) xs_.toList=some (args xs gs))
 (hc:∀ xs gs:Xs,factsAP C xs gs A→∀ R w,St S w0 ((selI (fun j=>ti.contains j) 0 L++ownsA (fun j=>to.contains j) xs gs A)++((selI (fun j=>xi.contains j) 0 L++ownsA (fun j=>xo.contains j) xs gs A)++R)) w →
  Calls P f (args xs gs).toArray w fun e w'=>e=.panicked ch∧Z ch w')
 (h:quietsP P n S w0 Z ops L F (k+1) rest Ts (fun xs gs=>ext dst (xs k) (E xs gs)) (A++[(k,C,fun _ _ _ _=>False,fun _ _ _ _=>[])])) :
 quietsP P n S w0 Z ops L F k ({ dst:=dst,op:=.call { callee:=.value (.func f),args:=xs_,argTypes:=ats },type:=ty,pos,after:=af,guard:=none }::rest) ((C,ti,to,xi,xo)::Ts) E A :=
 qp_of (s:=.any (fun _ _ _ _=>False) (fun _ _ _ _=>[])) (fun xs gs hf'=>.inr (.inr ⟨trivial,qx_call hf hb hn (hx xs gs hf') fun w R H=>hc xs gs hf' R w H⟩)) h
end
section
variable {P : Program} {n : Nat} {S : List Nat} {w0 : World} {Q : QE} {env : Env} {L : List Res} {ops : Array Oper} {rest : List Oper} {d : Tmp} {ty : TypeId} {pos : String} {af : Array Edge}
theorem l_callG {ι:Type} {V:ι→Value} {M:ι→List Res} {f:FuncId} {fn:Func} {xs:Array Operand} {ats:Array TypeId} {args:List Value} (hf:P.funcs[f]?=some fn) (hb:fn.body.isSome=true) (hn:(fn.name == "runtime.NumGoroutine")=false) (hx:evalsE env xs.toList=some args)
 (hc:∀ w,St S w0 L w→Calls P f args.toArray w (fun e w'=>∃ x,e=.returned (V x)∧St [] w (M x) w')) (hd:dstOk n (some d)=true) (h:∀ x,VL P n S w0 ops Q rest ((d,V x)::env) (M x++L)) :
 VL P n S w0 ops Q ({ dst:=some d,op:=.call { callee:=.value (.func f),args:=xs,argTypes:=ats },type:=ty,pos,after:=af,guard:=none }::rest) env L :=
 l_call (F:=fun u N=>∃ x,u=V x∧N=M x++L) hf hb hn hx (fun w H=>(hc w H).mono fun e w' ⟨x,h1,h2⟩=>⟨V x,_,h1,⟨x,rfl,rfl⟩,(H.join h2).perm List.perm_append_comm⟩) hd (by rintro u N ⟨x,rfl,rfl⟩;exact h x)
end
section
variable {P : Program} {n : Nat} {S : List Nat} {w0 : World} {env : Env} {L : List Res} {Q : QE} {ops : Array Oper} {rest : List Oper}
variable {d : Tmp} {dst : Option Tmp} {ty : TypeId} {pos : String} {af : Array Edge} {g : Option (Nat × Bool)}
theorem q_makeFuncB {f:FuncId} {first:Array Operand} {vs:List Value} (hx:evalsE env first.toList=some vs) :
 QT P n S w0 { dst:=some d,op:=.makeFunc (.func f) first #[],type:=ty,pos,after:=af,guard:=g } env L (.val (.func (.func f) vs.toArray #[])) :=
 q_of rfl fun a w hm H=>by
  have e:=hm.evals hx
  have e2:first.map a.eval=vs.toArray:=by
   apply Array.ext'
   simpa using e
  show (do pure (Next.value (← Instr.makeFunc (.func f) (first.map a.eval) (#[].map a.eval))):Sem Next).run P w=_
  rw [e2]
  simp [Instr.makeFunc]
theorem l_cloB {f:FuncId} {fn:Func} {xo:Operand} {xs:Array Operand} {ats:Array TypeId} {first args:List Value} {v:Value} {L':List Res} (hxo:evalE env xo=some (.func (.func f) first.toArray #[])) (hf:P.funcs[f]?=some fn) (hb:fn.body.isSome=true) (hn:(fn.name == "runtime.NumGoroutine")=false) (hx:evalsE env xs.toList=some args)
 (hc:∀ w,St S w0 L w→Calls P f (first++args).toArray w (fun e w'=>e=.returned v∧St S w0 L' w')) (hd:dstOk n (some d)=true) (h:VL P n S w0 ops Q rest ((d,v)::env) L') :
 VL P n S w0 ops Q ({ dst:=some d,op:=.call { callee:=.value xo,args:=xs,argTypes:=ats },type:=ty,pos,after:=af,guard:=none }::rest) env L :=
 vl_run trivial fun a w hm H=>opw_cloB (first++args) hf hb hn (hm.eval hxo) (by rw [hm.evals hx]) ((hc w H).mono fun e w' ⟨h1,h2⟩=>⟨v,h1,h.run _ w' (hm.put hd v) h2⟩)
end
end Go.PBYtfpdnpppcoomnaaGreat
namespace Go.Proofs.YtfpdnpppcoomnaaGreat
open Go.RowKit Go.PBYtfpdnpppcoomnaaGreat
def srcC (sl:Value) (dn st:Int) (root:List UInt8) (m:Nat):List Value:=[sl,.int .u32 dn,.int .i32 st,.int .u32 0]++(bys root++[vN m])
theorem srcC_length {sl:Value} {dn st:Int} {root:List UInt8} {m:Nat} (h:root.length=32):(srcC sl dn st root m).length=37:=by simp [srcC,bys,h]
theorem splice_mid (xs ys zs vs:List Value) (n:Nat) (h0:xs.length=n) (h:vs.length=ys.length):splice (xs++(ys++zs)) n vs=xs++(vs++zs):=by
 unfold splice
 subst h0
 simp [h]
theorem srcC_root {sl:Value} {dn st:Int} {root root':List UInt8} {m:Nat} (h:root.length=32) (h':root'.length=32):splice (srcC sl dn st root m) 4 (bys root')=srcC sl dn st root' m :=
 splice_mid _ _ _ _ 4 rfl (by simp [bys,h,h'])
theorem srcC_part {sl:Value} {dn st:Int} {root:List UInt8} {m:Nat} (h:root.length=32):((srcC sl dn st root m).drop 4).take 32=bys root:=by
 show ((bys root++[vN m]).take 32)=_
 rw [List.take_left' (by simp [bys,h])]
theorem srcC_many {sl:Value} {dn st:Int} {root:List UInt8} {m:Nat} (h:root.length=32):(srcC sl dn st root m)[36]?=some (vN m):=by
 show (bys root++[vN m])[32]?=_
 rw [List.getElem?_append_right (by simp [bys,h])]
 simp [bys,h]
theorem srcC_setMany {sl:Value} {dn st:Int} {root:List UInt8} {m:Nat} (v:Nat) (h:root.length=32):(srcC sl dn st root m).set 36 (vN v)=srcC sl dn st root v:=by
 show [sl,.int .u32 dn,.int .i32 st,.int .u32 0]++(bys root++[vN m]).set 32 (vN v)=_
 rw [List.set_append_right _ _ (by simp [bys,h])]
 simp [bys,h,srcC]
abbrev srcR (b:Nat) (c:List Value):Res:=.blk b 137 c
theorem begin_calls {w0:World} {L:List Res} (b:Nat) (seed:List UInt8) (A:Option Addr) (n c:Nat) (root:List UInt8) (m:Nat) (hn:n=seed.length) (hc:n≤c) (hb:n≤140737488355328) (hr:root.length=32) (hA:∀ x w,St [] w0 (srcR b x::L) w→SlAt w A (bys seed)) (w:World) (H:St [] w0 (srcR b (srcC (.slice A n c) 0 1 root m)::L) w) :
 Calls Tryz.prog 112 #[vP b 0] w fun e w'=>e=.returned (.tuple #[])∧St [] w0 (srcR b (srcC (.slice none 0 0) 0 1 (sumB seed) m)::L) w':=by
 have ls:=sumB_length seed
 have hl:=srcC_length (sl:=.slice A n c) (dn:=0) (st:=1) (m:=m) hr
 have lbs:(bys (sumB seed)).length=32:=by rw [bys_length];exact ls
 have hl2:=srcC_length (sl:=.slice A n c) (dn:=0) (st:=1) (m:=m) ls
 refine enter (n:=13) (R:=fun e M=>e=.returned (.tuple #[])∧M=srcR b (srcC (.slice none 0 0) 0 1 (sumB seed) m)::L) [vP b 0] F112 rfl rfl rfl H ?_ (fun e w' L' h H=>⟨h.1,h.2 ▸ H⟩)
 refine VC_seq<|VC_region<|vl_v (q_move rfl) rfl<|vl_v (q_move rfl) rfl<|vl_v (q_nilck rfl) rfl<|vl_v (q_fldA fo137_0 (by decide) rfl rfl) rfl<|vl_v (q_load 0 U22 rfl rfl rfl rfl) rfl<|vl_v (q_callV F53 rfl rfl rfl (fun w1 H1=>sum_calls seed A n c hn (by omega) w1 (hA _ w1 H1) (by omega))) rfl<|vl_v (q_nilck rfl) rfl<|vl_v (q_fldA fo137_2 (by decide) rfl rfl) rfl<|l_storeG 0 rfl rfl rfl sz33 (by with_reducible assumption) (by with_reducible first | exact bys_one _ | exact u32s_one _ | exact u64s_one _ | exact i64s_one _ | exact n64s_one _ | assumption) (by omega) ?_
 simp only [List.set_cons_zero,List.set_cons_succ]
 refine vl_nil<|th_n ?_
 rw [srcC_root hr ls]
 refine VC_region<|vl_v (q_move rfl) rfl<|vl_v (q_nilck rfl) rfl<|vl_v (q_fldA fo137_0 (by decide) rfl rfl) rfl<|l_store1 0 rfl rfl rfl sz22 rfl (by omega) ?_
 simp only [List.set_cons_zero,List.set_cons_succ]
 refine vl_nil<|⟨_,res0 rfl,?_⟩
 exact ⟨rfl,rfl⟩
theorem do_first {w0:World} {L:List Res} (b:Nat) (seed:List UInt8) (A:Option Addr) (n c:Nat) (root:List UInt8) (m:Nat) (hn:n=seed.length) (hc:n≤c) (hb:n≤140737488355328) (hr:root.length=32) (hA:∀ x w,St [] w0 (srcR b x::L) w→SlAt w A (bys seed)) (w:World) (H:St [] w0 (srcR b (srcC (.slice A n c) 0 0 root m)::L) w) :
 Calls Tryz.prog 111 #[vP b 1,.func (.func 112) [vP b 0].toArray #[]] w fun e w'=>e=.returned (.tuple #[])∧St [] w0 (srcR b (srcC (.slice none 0 0) 1 0 (sumB seed) m)::L) w':=by
 refine enter (n:=12) (R:=fun e M=>e=.returned (.tuple #[])∧M=srcR b (srcC (.slice none 0 0) 1 0 (sumB seed) m)::L) [vP b 1,.func (.func 112) [vP b 0].toArray #[]] F111 rfl rfl rfl H ?_ (fun e w' L' h H=>⟨h.1,h.2 ▸ H⟩)
 refine VC_seq<|VC_region<|vl_v (q_move rfl) rfl<|vl_v (q_nilck rfl) rfl<|vl_v (q_fldA fo135_1 (by decide) rfl rfl) rfl<|vl_v (q_as (v:=.bool false) (q_callV F119 rfl rfl rfl (fun w1 H1=>(done_load ⟨b,1,none⟩ 0 w1 ((H1.cell (k:=0) rfl _).trans rfl)).mono fun e w' h=>⟨h.1,h.2 ▸ Kept.refl _ _⟩)) (by rfl)) rfl ?_
 refine vl_v (q_not rfl) rfl<|vl_nil<|th_n<|VC_yes (rfl)<|VC_region<|vl_v (q_move rfl) rfl<|vl_v (q_move rfl) rfl<|l_callE F120 rfl rfl rfl (fun w1 H1=>slow_calls (S:=[]) b 1 137 (srcC (.slice A n c) 0 0 root m) (srcC (.slice none 0 0) 0 1 (sumB seed) m) 112 _ [vP b 0] F112 rfl rfl rfl rfl rfl rfl (fun w2 H2=>begin_calls b seed A n c root m hn hc hb hr hA w2 H2) w1 H1) rfl<|vl_nil<|⟨_,res0 rfl,?_⟩
 exact ⟨rfl,rfl⟩
theorem do_done {w0:World} {L:List Res} (b:Nat) (F:Value) (sl:Value) (root:List UInt8) (m:Nat) (w:World) (H:St [] w0 (srcR b (srcC sl 1 0 root m)::L) w) :
 Calls Tryz.prog 111 #[vP b 1,F] w fun e w'=>e=.returned (.tuple #[])∧St [] w0 (srcR b (srcC sl 1 0 root m)::L) w':=by
 refine enter (n:=12) (R:=fun e M=>e=.returned (.tuple #[])∧M=srcR b (srcC sl 1 0 root m)::L) [vP b 1,F] F111 rfl rfl rfl H ?_ (fun e w' L' h H=>⟨h.1,h.2 ▸ H⟩)
 refine VC_seq<|VC_region<|vl_v (q_move rfl) rfl<|vl_v (q_nilck rfl) rfl<|vl_v (q_fldA fo135_1 (by decide) rfl rfl) rfl<|vl_v (q_as (v:=.bool true) (q_callV F119 rfl rfl rfl (fun w1 H1=>(done_load ⟨b,1,none⟩ 1 w1 ((H1.cell (k:=0) rfl _).trans rfl)).mono fun e w' h=>⟨h.1,h.2 ▸ Kept.refl _ _⟩)) (by rfl)) rfl ?_
 refine vl_v (q_not rfl) rfl<|vl_nil<|th_n<|VC_no (rfl)<|VC_skip<|⟨_,res0 rfl,?_⟩
 exact ⟨rfl,rfl⟩
abbrev nilS:Value:=.slice none 0 0
def beginV (b:Nat):Value:=.func (.func 112) [vP b 0].toArray #[]
def doTo (w0:World) (b:Nat) (c0:List Value) (root:List UInt8) (m:Nat) (L:List Res):Prop :=
 ∀ (x:Res) (w:World),St [] w0 (srcR b c0::x::L) w→Calls Tryz.prog 111 #[vP b 1,beginV b] w fun e w'=>e=.returned (.tuple #[])∧St [] w0 (srcR b (srcC nilS 1 0 root m)::x::L) w'
theorem key_gen {w0:World} {L:List Res} (b:Nat) (c0:List Value) (root k:List UInt8) (m:Nat) (hr:root.length=32) (hm:m≤1000000) (hk:macB root (highB m 8)=k) (hdo:doTo w0 b c0 root m L) (w:World) (H:St [] w0 (srcR b c0::L) w) :
 Calls Tryz.prog 101 #[vP b 0] w fun e w'=>e=.returned (.agg (bys k).toArray)∧St [] w0 (srcR b (srcC nilS 1 0 root (m+1))::L) w':=by
 have lk:k.length=32:=by rw [← hk];exact macB_length _ _
 have lh:=highB_length m 8
 have hl:=srcC_length (sl:=nilS) (dn:=1) (st:=0) (m:=m) hr
 have gp:=srcC_part (sl:=nilS) (dn:=1) (st:=0) (m:=m) hr
 have gm:=srcC_many (sl:=nilS) (dn:=1) (st:=0) (m:=m) hr
 have lbr:(bys root).length=32:=by rw [bys_length];exact hr
 have lbk:(bys k).length=32:=by rw [bys_length];exact lk
 have lz:(bys (List.replicate 32 0)).length=32:=by rw [bys_length,List.length_replicate]
 refine enter (n:=29) (R:=fun e M=>e=.returned (.agg (bys k).toArray)∧∃ x y z,M=x::y::z::srcR b (srcC nilS 1 0 root (m+1))::L) [vP b 0] F101 rfl rfl rfl H ?_ (fun e w' L' h H=>⟨h.1,by obtain ⟨_,x,y,z,rfl⟩:=h;exact H.sub (.cons _ (.cons _ (.cons _ (List.Sublist.refl _))))⟩)
 refine VC_seq<|VC_region<|l_allocA zr33 rfl<|fun b2=>vl_nil<|th_n<|VC_seq<|VC_region<|vl_v (q_move rfl) rfl<|vl_v (q_nilck rfl) rfl<|vl_v (q_fldA fo137_1 (by decide) rfl rfl) rfl<|vl_v (q_move rfl) rfl<|vl_v (q_makeFuncB rfl) rfl ?_
 refine l_callE F111 rfl rfl rfl (fun w1 H1=>(hdo _ w1 (H1.perm (List.Perm.swap _ _ _))).mono fun e w' h=>⟨h.1,h.2.perm (List.Perm.swap _ _ _)⟩) rfl ?_
 refine vl_nil<|th_n<|VC_seq<|VC_drawM 12 [[],[0],[1],[2],[],[4],[5],[6],[7],[8],[3,9],[],[11,10,0,1,2,3,4,5,6,7,8,9]] [[],[0],[0,1],[0,1,2],[],[4],[4,5],[4,5,6],[4,5,6,7],[4,5,6,7,8],[0,1,2,3,4,5,6,7,8,9],[],[0,1,2,3,4,5,6,7,8,9,10,11]] rfl (by kernel_rfl)<|qm_v (fun xs hx=>q_move rfl)<|qm_v (fun xs hx=>q_nilck rfl)<|qm_v (fun xs hx=>q_fldA fo137_2 (by decide) rfl rfl)<|qm_v (fun xs hx=>q_loadsAt 1 U33 rfl rfl rfl sz33 gp lbr)<|qm_v (fun xs hx=>q_move rfl)<|qm_v (fun xs hx=>q_nilck rfl)<|qm_v (fun xs hx=>q_fldA fo137_3 (by decide) rfl rfl)<|qm_v (fun xs hx=>q_load 1 U3 rfl rfl rfl gm) ?_
 refine qm_v (fun xs hx=>q_conv_nw U3 U78 rfl (by omega))<|qm_a (fun xs hx=>q_callR F26 rfl rfl rfl (fun w1 H1=>high_calls m 8 8 rfl (by omega) w1))<|qm_v (fun xs hx=>q_callV (v:=.agg (bys k).toArray) F25 rfl rfl rfl (fun w1 H1=>by obtain ⟨A0,c0,e0,hc0,_,hs0⟩:=row_sl H1 0 rfl;have e1:xs 9=.slice A0 8 c0:=e0;rw [e1];exact hk ▸ draw_calls root (highB m 8) A0 8 c0 hr lh.symm (by omega) w1 hs0 (by omega)))<|qm_a (fun xs hx=>q_alloc zr33 rfl)<|qm_end<|fun xs hx=>?_
 obtain ⟨⟨A19,c19,e19,hc19,hm19⟩,⟨b3,e3⟩,_⟩:=hx
 simp only [e19]
 simp only [e3]
 simp only [resT,nRow,nBlk,nRowT,tupAt_0,List.append_assoc,List.nil_append,List.append_nil,List.cons_append,List.singleton_append,e19,e3]
 refine VL.keep (kp [0,2,20,3] rfl)<|l_storeA 1 rfl rfl rfl sz33 (by with_reducible assumption) (by with_reducible first | exact bys_one _ | exact u32s_one _ | exact u64s_one _ | exact i64s_one _ | exact n64s_one _ | assumption) (by exact lz) ?_
 simp only [List.set_cons_zero,List.set_cons_succ]
 refine vl_nil<|qn_n<|th_n<|VC_seq<|VC_region<|vl_v (q_move rfl) rfl<|vl_v (q_nilck rfl) rfl<|vl_v (q_fldA fo137_3 (by decide) rfl rfl) rfl<|vl_v (q_load 3 U3 rfl rfl rfl gm) rfl<|vl_v (q_add_n (q:=1) rfl rfl (by omega)) rfl<|vl_v (q_nilck rfl) rfl<|vl_v (q_fldA fo137_3 (by decide) rfl rfl) rfl<|l_store1 3 rfl rfl rfl sz3 rfl (by omega) ?_
 simp only [List.set_cons_zero,List.set_cons_succ]
 refine vl_nil<|th_n<|VC_seq ?_
 rw [srcC_setMany (m+1) hr]
 refine VC_region<|vl_v (q_loads 1 U33 rfl rfl rfl sz33 (by with_reducible assumption)) rfl<|l_storeA 2 rfl rfl rfl sz33 (by with_reducible assumption) (by with_reducible first | exact bys_one _ | exact u32s_one _ | exact u64s_one _ | exact i64s_one _ | exact n64s_one _ | assumption) (by with_reducible assumption) ?_
 simp only [List.set_cons_zero,List.set_cons_succ]
 refine vl_nil<|th_n<|VC_ret<|⟨_,resC1 2 rfl U33 rfl rfl rfl sz33 (by with_reducible assumption),?_⟩
 exact ⟨rfl,_,_,_,rfl⟩
end Go.Proofs.YtfpdnpppcoomnaaGreat
namespace Go.PBYtfpdnpppcoomnaaGreat
open Go Go.RowKit
def zB32:List UInt8:=List.replicate 32 0
theorem zB32_length:zB32.length=32:=by simp [zB32]
end Go.PBYtfpdnpppcoomnaaGreat
namespace Go.Proofs.YtfpdnpppcoomnaaGreat
open Go.RowKit Go.PBYtfpdnpppcoomnaaGreat
def keyB (seed:List UInt8) (m:Nat):List UInt8:=macB (sumB seed) (highB m 8)
theorem keyB_length (seed:List UInt8) (m:Nat):(keyB seed m).length=32:=macB_length _ _
def srcX (seed:List UInt8) (x:Option Addr × Nat) (m:Nat):List Value:=if m=0 then srcC (.slice x.1 seed.length x.2) 0 0 zB32 0 else srcC nilS 1 0 (sumB seed) m
abbrev srcS (b:Nat) (seed:List UInt8) (x:Option Addr × Nat) (m:Nat):List Res:=[srcR b (srcX seed x m),bodyR 5 seed x]
theorem mv2 {α:Type} (a b c:α) (r:List α):(a::b::c::r).Perm (b::c::a::r):=(List.perm_middle (l₁:=[b,c])).symm
theorem skey_calls {w0:World} {L:List Res} (b:Nat) (seed:List UInt8) (x:Option Addr × Nat) (m:Nat) (hs:seed.length≤140737488355328) (hm:m≤1000000) (w:World) (H:St [] w0 (srcS b seed x m++L) w) :
 Calls Tryz.prog 101 #[vP b 0] w fun e w'=>e=.returned (.agg (bys (keyB seed m)).toArray)∧St [] w0 (srcS b seed x (m+1)++L) w':=by
 have hc:seed.length≤x.2:=by
  obtain ⟨A,c,e,h,_⟩:=row_sl H 1 rfl
  cases e
  exact h
 have e2:srcX seed x (m+1)=srcC nilS 1 0 (sumB seed) (m+1):=if_neg (by omega)
 show Calls _ _ _ _ fun e w'=>e=_∧St [] w0 (srcR b (srcX seed x (m+1))::bodyR 5 seed x::L) w'
 rw [e2]
 refine key_gen b (srcX seed x m) (sumB seed) (keyB seed m) m (sumB_length seed) hm rfl ?_ w H
 intro y w1 H1
 by_cases h0:m=0
 ·subst h0
  rw [show srcX seed x 0=srcC (.slice x.1 seed.length x.2) 0 0 zB32 0 from if_pos rfl] at H1
  exact do_first b seed x.1 seed.length x.2 zB32 0 rfl hc hs zB32_length (fun u w2 H2=>Reads.row 2 rfl w2 H2) w1 H1
 ·rw [show srcX seed x m=srcC nilS 1 0 (sumB seed) m from if_neg h0] at H1
  exact do_done b _ _ _ m w1 H1
theorem spair_calls {w0:World} {L:List Res} (b:Nat) (seed:List UInt8) (x:Option Addr × Nat) (m:Nat) (hs:seed.length≤140737488355328) (hm:m≤1000000) (w:World) (H:St [] w0 (srcS b seed x m++L) w) :
 Calls Tryz.prog 86 #[vP b 0] w fun e w'=>e=.returned (.agg (bys (pairB (keyB seed m))).toArray)∧St [] w0 (srcS b seed x (m+1)++L) w':=by
 have lk:=keyB_length seed m
 have lp:=pairB_length (keyB seed m)
 have hkc:=fun (L:List Res) w1 H1=>skey_calls (L:=L) (w0:=w0) b seed x m hs hm w1 H1
 obtain ⟨k,hk⟩:∃ k,keyB seed m=k:=⟨_,rfl⟩
 rw [hk] at lk lp hkc ⊢
 obtain ⟨p,hp⟩:∃ p,pairB k=p:=⟨_,rfl⟩
 have hpc:=fun B m cb hm hb w hB hcb=>pair_calls k B m cb hm hb w hB hcb
 rw [hp] at lp hpc ⊢
 clear hp hk
 obtain ⟨c0,e0⟩:∃ c0,srcX seed x m=c0:=⟨_,rfl⟩
 obtain ⟨c1,e1⟩:∃ c1,srcX seed x (m+1)=c1:=⟨_,rfl⟩
 unfold srcS at H hkc ⊢
 rw [e0] at H hkc
 rw [e1] at hkc ⊢
 have lbk:(bys k).length=32:=by rw [bys_length];exact lk
 have lbp:(bys p).length=64:=by rw [bys_length];exact lp
 have lz:(bys (List.replicate 32 0)).length=32:=by rw [bys_length,List.length_replicate]
 have lz2:(bys (List.replicate 32 0)++bys (List.replicate 32 0)).length=64:=by rw [List.length_append,lz]
 refine enter (n:=11) (R:=fun e M=>e=.returned (.agg (bys p).toArray)∧∃ y z,M=y::z::srcR b c1::bodyR 5 seed x::L) [vP b 0] F86 rfl rfl rfl H ?_ (fun e w' L' h H=>⟨h.1,by obtain ⟨_,y,z,rfl⟩:=h;exact H.sub (.cons _ (.cons _ (List.Sublist.refl _)))⟩)
 refine VC_seq<|VC_region<|l_allocA zr60 rfl<|fun b2=>vl_nil<|th_n<|VC_seq<|VC_region<|vl_v (q_move rfl) rfl<|vl_v (q_makeFuncB rfl) rfl<|vl_v (q_assign rfl) rfl<|vl_nil<|th_n ?_
 refine VC_seq<|VC_region<|vl_v (q_move rfl) rfl<|l_cloB (first:=[vP b 0]) (args:=[]) rfl F101 rfl rfl rfl (fun w1 H1=>(hkc _ w1 (H1.perm (mv2 _ _ _ _))).mono fun e w' h=>⟨h.1,h.2.perm (mv2 _ _ _ _).symm⟩) rfl ?_
 refine l_allocA zr33 rfl<|fun b4=>l_storeA 0 rfl rfl rfl sz33 (by with_reducible assumption) (by with_reducible first | exact bys_one _ | exact u32s_one _ | exact u64s_one _ | exact i64s_one _ | exact n64s_one _ | assumption) (by with_reducible assumption) ?_
 simp only [List.set_cons_zero,List.set_cons_succ]
 refine vl_nil<|th_n<|VC_seq<|VC_region ?_
 refine vl_v (q_slcA U33 sz5 rfl rfl rfl rfl (.inl rfl) (by omega) (by omega) (by omega) (by omega) (by (try simp only [Nat.mul_one,Nat.zero_add,Nat.zero_mul,Nat.mul_zero,Nat.add_zero])<;>rfl)) rfl ?_
 refine vl_v (q_callV F18 rfl rfl rfl (fun w1 H1=>hpc _ _ _ (by omega) (by omega) w1 (Reads.blk 0 rfl w1 H1) (by omega))) rfl<|l_storeA 1 rfl rfl rfl sz60 (by with_reducible assumption) (by with_reducible first | exact bys_one _ | exact u32s_one _ | exact u64s_one _ | exact i64s_one _ | exact n64s_one _ | assumption) (by with_reducible assumption) ?_
 simp only [List.set_cons_zero,List.set_cons_succ]
 refine vl_nil<|th_n<|VC_ret<|⟨_,resC1 1 rfl U60 rfl rfl rfl sz60 (by with_reducible assumption),?_⟩
 exact ⟨rfl,_,_,rfl⟩
theorem snew_calls (seed:List UInt8) (B:Option Addr) (n k:Nat) (hn:n=seed.length) (hb:n≤1000000) (w:World) (hB:SlAt w B (bys seed)) :
 Calls Tryz.prog 20 #[.slice B n k] w fun e w'=>∃ y:Nat × Option Addr × Nat,e=.returned (vP y.1 0)∧St [] w (srcS y.1 seed y.2 0) w':=by
 subst hn
 refine enter (n:=8) (R:=fun e M=>∃ y:Nat × Option Addr × Nat,e=.returned (vP y.1 0)∧M=srcS y.1 seed y.2 0) [.slice B seed.length k] F20 rfl rfl rfl (St.refl w) ?_ (fun e w' L' h H=>by obtain ⟨y,h1,rfl⟩:=h;exact ⟨y,h1,H⟩)
 refine VC_seq<|VC_region<|vl_v (q_assign rfl) rfl<|vl_nil<|th_n<|VC_seq<|VC_region<|l_litA (cs:=bys []) U22 in5 (by decide) rfl rfl rfl rfl (by exact one_all rfl) rfl rfl<|fun b3=>vl_v (q_move rfl) rfl<|l_append 0 rfl rfl rfl U22 U22 in5 rfl (by decide) (Reads.old hB) (by simp only [bys_length];omega) (by with_reducible first | exact bys_one _ | exact u32s_one _ | exact u64s_one _ | exact i64s_one _ | exact n64s_one _ | assumption) (by omega) (by omega) rfl<|fun A5 c5 hc5=>?_
 simp only [List.set_cons_zero,List.set_cons_succ,← bys_append,← u32s_append,← u64s_append,← i64s_append,List.nil_append,Nat.zero_add]
 refine vl_v (q_build (c':=srcC (.slice A5 seed.length c5) 0 0 zB32 0) rfl (by kernel_rfl)) rfl<|l_boxA rfl rfl<|fun b7=>vl_v (q_assign rfl) rfl<|vl_nil<|th_n<|VC_ret<|⟨_,res1 rfl rfl,?_⟩
 exact ⟨(_,_,_),rfl,rfl⟩
theorem snew_any (seed:List UInt8) (B:Option Addr) (k:Nat) (hb:seed.length≤140737488355328) (w:World) (hB:SlAt w B (bys seed)) :
 Calls Tryz.prog 20 #[.slice B seed.length k] w fun e w'=>∃ y:Nat × Option Addr × Nat,e=.returned (vP y.1 0)∧St [] w (srcS y.1 seed y.2 0) w':=by
 by_cases hs:seed.length≤1000000
 ·exact snew_calls seed B _ k rfl hs w hB
 have h0:0<seed.length:=by omega
 refine enter (n:=8) (R:=fun e M=>∃ y:Nat × Option Addr × Nat,e=.returned (vP y.1 0)∧∀ w',St [] w M w'→St [] w (srcS y.1 seed y.2 0) w') [.slice B seed.length k] F20 rfl rfl rfl (St.refl w) ?_ (fun e w' L' h H=>by obtain ⟨y,h1,h2⟩:=h;exact ⟨y,h1,h2 w' H⟩)
 refine VC_seq<|VC_region<|vl_v (q_assign rfl) rfl<|vl_nil<|th_n<|VC_seq<|VC_region<|l_litA (cs:=bys []) U22 in5 (by decide) rfl rfl rfl rfl (by exact one_all rfl) rfl rfl<|fun b3=>vl_v (q_move rfl) rfl<|vl_q (q_appendBig rfl rfl U22 in5 rfl (Reads.old hB) (bys_length _) (bys_one _) h0 hb) trivial rfl ?_
 rintro _ ⟨A5,c5,rfl,hc5,_⟩
 refine vl_v (q_build (c':=srcC (.slice A5 seed.length c5) 0 0 zB32 0) rfl (by kernel_rfl)) rfl<|l_boxA rfl rfl<|fun b7=>vl_v (q_assign rfl) rfl<|vl_nil<|th_n<|VC_ret<|⟨_,res1 rfl rfl,?_⟩
 exact ⟨(b7,A5,c5),rfl,fun w' H=>St.pick H (ks:=[0,1]) (by decide) rfl⟩
end Go.Proofs.YtfpdnpppcoomnaaGreat
namespace Go.Proofs.YtfpdnpppcoomnaaGreat
open Go Go.RowKit Go.PBYtfpdnpppcoomnaaGreat
theorem seC_src {x:SeD} (h:x.ok) (v:Value):(seC x++[v])[102]?=some v:=by
 rw [List.getElem?_append_right (by rw [seC_length h];omega),seC_length h];rfl
def rootN (r c:List UInt8):List UInt8:=keyP (macB r c) tRoot
def chainN0 (r c:List UInt8):List UInt8:=keyP (macB r c) tChain
def turnS (x:SeD) (pub k:List UInt8) (l:Value):SeD:={ x with own:=pairB k,root:=rootN x.root (comB (sumB k) pub),s:=l,t:=false }
theorem rturn_calls {w0:World} {R:List Res} (bs bp bq:Nat) (x:SeD) (pub seed:List UInt8) (y:Option Addr × Nat) (m:Nat) (hx:x.ok) (ho:x.o=vP bp 0) (hs0:x.s=nilP) (hpub:pub.length=32) (hsd:seed.length≤140737488355328) (hm:m≤1000000) (hc0:comE (comB (sumB (keyB seed m)) pub)=0) (w:World) (H:St [] w0 ([.blk bs 145 (seC x++[vP bq 0]),.blk bp 33 (bys pub)]++(srcS bq seed y m++R)) w) :
 Calls Tryz.prog 64 #[vP bs 0] w fun e w'=>∃ bl:Nat,e=.returned (vN 0)∧St [] w0 ([.blk bs 145 (seC (turnS x pub (keyB seed m) (vP bl 0))++[vP bq 0]),.blk bl 153 (liC (chainN0 x.root (comB (sumB (keyB seed m)) pub)) 0),.blk bp 33 (bys pub)]++(srcS bq seed y (m+1)++R)) w':=by
 have hsp:=fun (R:List Res) w1 H1=>spair_calls (w0:=w0) (L:=R) bq seed y m hsd hm w1 H1
 unfold turnS
 unfold srcS at H hsp ⊢
 obtain ⟨k,hk⟩:∃ k,keyB seed m=k:=⟨_,rfl⟩
 rw [hk] at hc0 hsp ⊢
 have hp:pairB k=sumB k++pubB (sumB k):=rfl
 have l1:=sumB_length k
 have l2:=pubB_length (sumB k)
 have hcc:=fun w=>com_calls (sumB k) (pubB (sumB k)) pub l1 l2 hpub w
 rw [← hp,hc0] at hcc
 have lp:=pairB_length k
 have lc:=comB_length (sumB k) pub
 obtain ⟨cm,hcm⟩:∃ c,comB (sumB k) pub=c:=⟨_,rfl⟩
 rw [hcm] at hcc lc ⊢
 obtain ⟨p,hpp⟩:∃ p,pairB k=p:=⟨_,rfl⟩
 rw [hpp] at hcc lp hsp ⊢
 have hrc:=fun w=>root_calls x.root cm hx.root lc w
 have l3:(rootN x.root cm).length=32:=keyP_length ..
 have l4:(chainN0 x.root cm).length=32:=keyP_length ..
 have hb1:=built_li l4
 obtain ⟨rt,hrt⟩:∃ r,rootN x.root cm=r:=⟨_,rfl⟩
 obtain ⟨nx,hnx⟩:∃ r,chainN0 x.root cm=r:=⟨_,rfl⟩
 have hrc:∀ w,Calls Tryz.prog 88 #[.agg (bys x.root).toArray,.agg (bys cm).toArray] w fun e w'=>e=.returned (.tuple #[.agg (bys rt).toArray,.agg (bys nx).toArray])∧Kept [] w w':=fun w=>by rw [← hrt,← hnx];exact hrc w
 rw [hrt] at l3 ⊢
 rw [hnx] at l4 hb1 ⊢
 have lbp:(bys p).length=64:=by rw [bys_length];exact lp
 have lbc:(bys cm).length=32:=by rw [bys_length];exact lc
 have lbr:(bys rt).length=32:=by rw [bys_length];exact l3
 have lbn:(bys nx).length=32:=by rw [bys_length];exact l4
 have lbo:(bys pub).length=32:=by rw [bys_length];exact hpub
 have lbx:(bys x.root).length=32:=by rw [bys_length];exact hx.root
 have hf:=seC_f hx [vP bq 0]
 have hxl:=hf.len
 have h102:=seC_src hx (vP bq 0)
 have hx1:SeD.ok { x with own:=p }:=⟨hx.root,lp,hx.o,hx.s,hx.r,hx.st⟩
 have hf1:=seC_f hx1 [vP bq 0]
 have hx2:SeD.ok { x with own:=p,root:=rt }:=⟨l3,lp,hx.o,hx.s,hx.r,hx.st⟩
 have hf2:=seC_f hx2 [vP bq 0]
 have hx3:∀ b:Nat,SeD.ok { x with own:=p,root:=rt,s:=vP b 0 }:=fun b=>⟨l3,lp,hx.o,rfl,hx.r,hx.st⟩
 have hg2:=hf.g2
 rw [ho] at hg2
 have hg4:=hf.g4
 rw [hs0] at hg4
 refine enter (n:=77) (R:=fun e L=>e=.returned (vN 0)∧∀ w',St [] w0 L w'→∃ bl:Nat,St [] w0 ([.blk bs 145 (seC { x with own:=p,root:=rt,s:=vP bl 0,t:=false }++[vP bq 0]),.blk bl 153 (liC nx 0),.blk bp 33 (bys pub)]++(srcS bq seed y (m+1)++R)) w') [vP bs 0] F64 rfl rfl rfl H ?_ (fun e w' L' h H=>by obtain ⟨bl,h2⟩:=h.2 w' H;exact ⟨bl,h.1,h2⟩)
 refine VC_seq<|VC_region<|vl_v (q_assign rfl) rfl<|vl_nil<|th_n<|VC_seq<|VC_region<|vl_v (q_move rfl) rfl<|vl_v (q_nilck rfl) rfl<|vl_v (q_fldA fo145_1 (by decide) rfl rfl) rfl<|vl_v (q_load 0 U63 rfl rfl rfl h102) rfl<|l_callE F86 rfl rfl rfl (fun w1 H1=>hsp ([.blk bs 145 (seC x++[vP bq 0]),.blk bp 33 (bys pub)]++R) w1 (St.pickR (M:=[srcR bq (srcX seed y m),bodyR 5 seed y,.blk bs 145 (seC x++[vP bq 0]),.blk bp 33 (bys pub)]) (R:=R) 4 H1 (ks:=[2,3,0,1]) (by decide) (by decide) rfl rfl)) rfl ?_
 simp only [List.cons_append,List.nil_append]
 refine l_allocA zr60 rfl<|fun b3=>l_storeA 0 rfl rfl rfl sz60 (by with_reducible assumption) (by with_reducible first | exact bys_one _ | exact u32s_one _ | exact u64s_one _ | exact i64s_one _ | exact n64s_one _ | assumption) (by rfl) ?_
 simp only [List.set_cons_zero,List.set_cons_succ]
 refine vl_nil<|th_n<|VC_seq<|VC_frame (X:=[_,_,_,_,_]) (fun w9 H9=>?_)
 refine VC_drawQ 14 5 [[],[],[1],[2],[3],[4],[5],[6],[0,7],[8],[9],[9],[],[12,10,8,0,1,2,3,4,5,6,7,9],[11,13,0,1,2,3,4,5,6,7,8,9,10,12]] [[],[],[1],[1,2],[1,2,3],[1,2,3,4],[1,2,3,4,5],[1,2,3,4,5,6],[0,1,2,3,4,5,6,7],[0,1,2,3,4,5,6,7,8],[0,1,2,3,4,5,6,7,8,9],[0,1,2,3,4,5,6,7,8,9],[],[0,1,2,3,4,5,6,7,8,9,10,12],[0,1,2,3,4,5,6,7,8,9,10,11,12,13]] [([],[],[],[0,1,2,3,4],[]),([],[],[],[0,1,2,3,4],[]),([1],[],[],[0,1,2,3,4],[1]),([1,2],[],[],[0,1,2,3,4],[1,2]),([1,2,3],[],[],[0,1,2,3,4],[1,2,3]),([1,2,3,4],[],[],[0,1,2,3,4],[1,2,3,4]),([1,2,3,4,5],[],[],[0,1,2,3,4],[1,2,3,4,5]),([1,2,3,4,5,6],[],[],[0,1,2,3,4],[1,2,3,4,5,6]),([0,1,2,3,4,5,6,7],[],[],[0,1,2,3,4],[0,1,2,3,4,5,6,7]),([0,1,2,3,4,5,6,7,8],[],[],[0,1,2,3,4],[0,1,2,3,4,5,6,7,8]),([0,1,2,3,4,5,6,7,8,9],[],[],[0,1,2,3,4],[0,1,2,3,4,5,6,7,8,9]),([0,1,2,3,4,5,6,7,8,9],[],[],[0,1,2,3,4],[0,1,2,3,4,5,6,7,8,9]),([],[],[],[0,1,2,3,4],[]),([0,1,2,3,4,5,6,7,8,9,10,12],[],[12],[0,1,2,3,4],[0,1,2,3,4,5,6,7,8,9,10])] [0,1,2,3,4] [0,1,2,3,4,5,6,7,8,9,10,11,13] rfl rfl (by kernel_rfl)<|qp_v (fun xs gs hx=>q_loads 0 U60 rfl rfl rfl sz60 (by with_reducible assumption))<|qp_v (fun xs gs hx=>q_move rfl)<|qp_v (fun xs gs hx=>q_nilck rfl)<|qp_v (fun xs gs hx=>q_fldA fo145_0 (by decide) rfl rfl)<|qp_v (fun xs gs hx=>q_fldA fo143_2 (by decide) rfl rfl)<|qp_v (fun xs gs hx=>q_load 3 U138 rfl rfl rfl hg2)<|qp_v (fun xs gs hx=>q_nilck rfl)<|qp_v (fun xs gs hx=>q_loads 4 U33 rfl rfl rfl sz33 (by with_reducible assumption))<|qp_v (fun xs gs hx=>q_callV F87 rfl rfl rfl (fun w1 H1=>hcc w1))<|qp_v (fun xs gs hx=>q_move rfl)<|qp_v (fun xs gs hx=>q_ext rfl rfl) ?_
 refine qp_v (fun xs gs hx=>q_ext rfl rfl)<|qp_a (fun xs gs hx=>q_alloc zr33 rfl) ?_
 refine qp_storeN (fun xs gs hx=>rfl) (fun xs gs hx=>hx.1 rfl) (fun xs gs hx=>rfl) (fun xs gs hx=>List.append_nil _) sz33 (fun xs gs hx=>by first | with_reducible assumption | omega | rfl) (fun xs gs hx=>by first | (with_reducible first | exact bys_one _ | exact u32s_one _ | exact u64s_one _ | exact i64s_one _ | exact n64s_one _ | assumption) | exact bys_one _ | exact u32s_one _ | exact u64s_one _ | exact i64s_one _ | exact one_all rfl | (refine app_one ?_ ?_<;>first | exact bys_one _ | exact one_all rfl | (simp;done))) (fun xs gs hx=>by first | with_reducible assumption | omega | rfl) ?_
 refine qp_end<|fun xs gs hx=>?_
 obtain ⟨⟨b4,e4⟩,_,_⟩:=hx
 simp only [selI,ownsA,List.contains_cons,List.contains_nil,Nat.reduceBEq,Nat.reduceAdd,Bool.or_false,Bool.or_true,Bool.false_or,Bool.true_or,mask,nRow,nBlk,nRowT,tupAt_0,tupAt_1,List.append_assoc,List.nil_append,List.append_nil,List.cons_append,List.singleton_append,e4]
 refine VL.keep (kp [0,2,3,24,4] rfl)<|vl_v (q_assign rfl) rfl<|vl_nil<|qn_n<|th_n<|VC_seq<|VC_seq<|VC_region<|vl_v (q_move rfl) rfl<|vl_v (q_as (v:=.bool false) (q_neq_k U29 rfl rfl) (by simp)) rfl<|vl_nil<|th_n<|VC_no (rfl) ?_
 refine VC_skip<|th_n<|VC_seq<|VC_frame (X:=[_,_,_,_,_,_]) (fun w9 H9=>?_)
 refine VC_drawQ 13 6 [[],[0],[1],[2],[3],[],[4,5],[6],[7],[7],[],[],[10,8,6,0,1,2,3,4,5,7,11],[11,9,12,0,1,2,3,4,5,6,7,8,10]] [[],[0],[0,1],[0,1,2],[0,1,2,3],[],[0,1,2,3,4,5],[0,1,2,3,4,5,6],[0,1,2,3,4,5,6,7],[0,1,2,3,4,5,6,7],[],[],[0,1,2,3,4,5,6,7,8,10,11],[0,1,2,3,4,5,6,7,8,9,10,11,12]] [([],[],[],[0,1,2,3,4,5],[]),([0],[],[],[0,1,2,3,4,5],[0]),([0,1],[],[],[0,1,2,3,4,5],[0,1]),([0,1,2],[],[],[0,1,2,3,4,5],[0,1,2]),([0,1,2,3],[],[],[0,1,2,3,4,5],[0,1,2,3]),([],[],[],[0,1,2,3,4,5],[]),([0,1,2,3,4,5],[],[],[0,1,2,3,4,5],[0,1,2,3,4,5]),([0,1,2,3,4,5,6],[],[],[0,1,2,3,4,5],[0,1,2,3,4,5,6]),([0,1,2,3,4,5,6,7],[],[],[0,1,2,3,4,5],[0,1,2,3,4,5,6,7]),([0,1,2,3,4,5,6,7],[],[],[0,1,2,3,4,5],[0,1,2,3,4,5,6,7]),([],[],[],[0,1,2,3,4,5],[]),([],[],[],[0,1,2,3,4,5],[]),([0,1,2,3,4,5,6,7,8,10,11],[],[10],[0,1,2,3,4,5],[0,1,2,3,4,5,6,7,8,11])] [0,1,2,3,4,5] [0,1,2,3,4,5,6,7,8,9,11,12] rfl rfl (by kernel_rfl)<|qp_v (fun xs gs hx=>q_move rfl)<|qp_v (fun xs gs hx=>q_nilck rfl)<|qp_v (fun xs gs hx=>q_fldA fo145_0 (by decide) rfl rfl)<|qp_v (fun xs gs hx=>q_fldA fo143_0 (by decide) rfl rfl)<|qp_v (fun xs gs hx=>q_loadsAt 3 U33 rfl rfl rfl sz33 hf.g0 lbx)<|qp_v (fun xs gs hx=>q_loads 5 U33 rfl rfl rfl sz33 (by with_reducible assumption))<|qp_v (fun xs gs hx=>q_callV F88 rfl rfl rfl (fun w1 H1=>hrc w1))<|qp_v (fun xs gs hx=>q_move rfl)<|qp_v (fun xs gs hx=>q_ext rfl rfl)<|qp_v (fun xs gs hx=>q_ext rfl rfl)<|qp_a (fun xs gs hx=>q_alloc zr33 rfl) ?_
 refine qp_a (fun xs gs hx=>q_alloc zr33 rfl) ?_
 refine qp_storeN (fun xs gs hx=>rfl) (fun xs gs hx=>hx.1 rfl) (fun xs gs hx=>rfl) (fun xs gs hx=>List.append_nil _) sz33 (fun xs gs hx=>by first | with_reducible assumption | omega | rfl) (fun xs gs hx=>by first | (with_reducible first | exact bys_one _ | exact u32s_one _ | exact u64s_one _ | exact i64s_one _ | exact n64s_one _ | assumption) | exact bys_one _ | exact u32s_one _ | exact u64s_one _ | exact i64s_one _ | exact one_all rfl | (refine app_one ?_ ?_<;>first | exact bys_one _ | exact one_all rfl | (simp;done))) (fun xs gs hx=>by first | with_reducible assumption | omega | rfl) ?_
 refine qp_end<|fun xs gs hx=>?_
 obtain ⟨⟨b6,e6⟩,⟨b7,e7⟩,_,_⟩:=hx
 simp only [selI,ownsA,List.contains_cons,List.contains_nil,Nat.reduceBEq,Nat.reduceAdd,Bool.or_false,Bool.or_true,Bool.false_or,Bool.true_or,mask,nRow,nBlk,nRowT,tupAt_0,tupAt_1,List.append_assoc,List.nil_append,List.append_nil,List.cons_append,List.singleton_append,e6,e7]
 refine VL.keep (kp [0,2,3,4,5,26,37,6,7] rfl)<|l_storeA 6 rfl rfl rfl sz33 (by with_reducible assumption) (by with_reducible first | exact bys_one _ | exact u32s_one _ | exact u64s_one _ | exact i64s_one _ | exact n64s_one _ | assumption) (by rfl) ?_
 simp only [List.set_cons_zero,List.set_cons_succ]
 refine vl_nil<|qn_n<|th_n<|VC_seq<|VC_seq<|VC_region<|vl_v (q_move rfl) rfl<|vl_v (q_nilck rfl) rfl<|vl_v (q_fldA fo145_0 (by decide) rfl rfl) rfl<|vl_v (q_fldA fo143_4 (by decide) rfl rfl) rfl<|vl_v (q_load 3 U141 rfl rfl rfl hg4) rfl<|vl_v (q_neNN U141 rfl rfl) rfl<|vl_nil ?_
 refine th_n<|VC_no (rfl)<|VC_skip<|th_n<|VC_seq<|VC_frame (X:=[_,_,_,_,_,_,_,_]) (fun w9 H9=>?_)
 refine VC_drawQ 21 8 [[],[],[],[],[],[],[],[6],[7],[0,4],[9,0,4],[10,0,4],[11,4,0],[1,0,4,5,9,10,11,12],[13,0,1,4,5,9,10,11,12],[14,0,1,4,5,9,10,11,12],[15,5,12,0,1,4,9,10,11],[2,0,1,4,5,6,7,8,9,10,11,12,13,14,15,16],[17,0,1,2,4,5,6,7,8,9,10,11,12,13,14,15,16],[18,0,1,2,4,5,6,7,8,9,10,11,12,13,14,15,16],[19,8,16,0,1,2,4,5,6,7,9,10,11,12,13,14,15],[3,0,1,2,4,5,6,7,8,9,10,11,12,13,14,15,16,17,18,19,20],[21,0,1,2,3,4,5,6,7,8,9,10,11,12,13,14,15,16,17,18,19,20],[22,0,1,2,3,4,5,6,7,8,9,10,11,12,13,14,15,16,17,18,19,20],[23,20,0,1,2,3,4,5,6,7,8,9,10,11,12,13,14,15,16,17,18,19]] [[],[],[],[],[],[],[],[6],[6,7],[0,4],[0,4,9],[0,4,9,10],[0,4,9,10,11],[0,1,4,5,9,10,11,12],[0,1,4,5,9,10,11,12,13],[0,1,4,5,9,10,11,12,13,14],[0,1,4,5,9,10,11,12,13,14,15],[0,1,2,4,5,6,7,8,9,10,11,12,13,14,15,16],[0,1,2,4,5,6,7,8,9,10,11,12,13,14,15,16,17],[0,1,2,4,5,6,7,8,9,10,11,12,13,14,15,16,17,18],[0,1,2,4,5,6,7,8,9,10,11,12,13,14,15,16,17,18,19],[0,1,2,3,4,5,6,7,8,9,10,11,12,13,14,15,16,17,18,19,20],[0,1,2,3,4,5,6,7,8,9,10,11,12,13,14,15,16,17,18,19,20,21],[0,1,2,3,4,5,6,7,8,9,10,11,12,13,14,15,16,17,18,19,20,21,22],[0,1,2,3,4,5,6,7,8,9,10,11,12,13,14,15,16,17,18,19,20,21,22,23]] [([],[],[],[0,1,2,3,4,5,6,7],[]),([],[],[],[0,1,2,4,5,6,7],[]),([],[],[],[0,1,2,4,5,6,7],[]),([],[],[],[0,1,2,4,5,6,7],[]),([],[],[],[0,1,2,3,4,5,6,7],[]),([],[],[],[0,1,2,4,5,6,7],[]),([],[],[],[0,1,2,4,5,6,7],[]),([6],[],[],[0,1,2,4,5,6,7],[6]),([6,7],[],[],[0,1,2,4,5,6,7],[6,7]),([0,4],[],[],[0,1,2,3,4,5,6,7],[0,4]),([0,4,9],[],[],[0,1,2,3,4,5,6,7],[0,4,9]),([0,4,9,10],[],[],[0,1,2,3,4,5,6,7],[0,4,9,10]),([0,4,9,10,11],[3],[],[0,1,2,4,5,6,7],[0,4,9,10,11]),([0,1,4,5,9,10,11,12],[],[],[0,1,2,4,5,6,7],[0,1,4,5,9,10,11,12]),([0,1,4,5,9,10,11,12,13],[],[],[0,1,2,4,5,6,7],[0,1,4,5,9,10,11,12,13]),([0,1,4,5,9,10,11,12,13,14],[],[],[0,1,2,4,5,6,7],[0,1,4,5,9,10,11,12,13,14]),([0,1,4,5,9,10,11,12,13,14,15],[],[12],[0,1,2,4,5,6,7],[0,1,4,5,9,10,11,13,14,15]),([0,1,2,4,5,6,7,8,9,10,11,12,13,14,15,16],[],[],[0,1,2,4,5,6,7],[0,1,2,4,5,6,7,8,9,10,11,13,14,15,16]),([0,1,2,4,5,6,7,8,9,10,11,12,13,14,15,16,17],[],[],[0,1,2,4,5,6,7],[0,1,2,4,5,6,7,8,9,10,11,13,14,15,16,17]),([0,1,2,4,5,6,7,8,9,10,11,12,13,14,15,16,17,18],[],[],[0,1,2,4,5,6,7],[0,1,2,4,5,6,7,8,9,10,11,13,14,15,16,17,18]),([0,1,2,4,5,6,7,8,9,10,11,12,13,14,15,16,17,18,19],[],[16],[0,1,2,4,5,6,7],[0,1,2,4,5,6,7,8,9,10,11,13,14,15,17,18,19])] [0,1,2,4,5,6,7] [0,1,2,3,4,5,6,7,8,9,10,11,13,14,15,17,18,19,20] rfl rfl (by kernel_rfl)<|qp_v (fun xs gs hx=>q_move rfl)<|qp_v (fun xs gs hx=>q_move rfl)<|qp_v (fun xs gs hx=>q_move rfl)<|qp_v (fun xs gs hx=>q_move rfl)<|qp_v (fun xs gs hx=>q_loads 0 U60 rfl rfl rfl sz60 (by with_reducible assumption))<|qp_v (fun xs gs hx=>q_loads 6 U33 rfl rfl rfl sz33 (by with_reducible assumption))<|qp_v (fun xs gs hx=>q_loads 5 U33 rfl rfl rfl sz33 (by with_reducible assumption))<|qp_v (fun xs gs hx=>q_build (c':=liC nx 0) rfl hb1)<|qp_a (fun xs gs hx=>q_box (c:=liC nx 0) rfl rfl)<|qp_v (fun xs gs hx=>q_nilck rfl)<|qp_v (fun xs gs hx=>q_fldA fo145_0 (by decide) rfl rfl) ?_
 refine qp_v (fun xs gs hx=>q_fldA fo143_1 (by decide) rfl rfl)<|qp_storeC (j:=32) (c:=fun _ _=>seC x++[vP bq 0]) (c':=fun _ _=>seC { x with own:=p }++[vP bq 0]) (vs:=fun _ _=>bys p) (v:=fun _ _=>.agg (bys p).toArray) (fun xs gs hx=>rfl) (fun xs gs hx=>rfl) (fun xs gs hx=>rfl) (fun xs gs hx=>rfl) sz60 (fun xs gs hx=>lbp) (fun xs gs hx=>bys_one _) (fun xs gs hx=>by rw [hxl];simp) (fun xs gs hx=>hf.w1 p lp)<|qp_v (fun xs gs hx=>q_nilck rfl)<|qp_v (fun xs gs hx=>q_fldA fo145_0 (by decide) rfl rfl)<|qp_v (fun xs gs hx=>q_fldA fo143_0 (by decide) rfl rfl)<|qp_storeC (j:=0) (c:=fun _ _=>seC { x with own:=p }++[vP bq 0]) (c':=fun _ _=>seC { x with own:=p,root:=rt }++[vP bq 0]) (vs:=fun _ _=>bys rt) (v:=fun _ _=>.agg (bys rt).toArray) (fun xs gs hx=>rfl) (fun xs gs hx=>rfl) (fun xs gs hx=>rfl) (fun xs gs hx=>rfl) sz33 (fun xs gs hx=>lbr) (fun xs gs hx=>bys_one _) (fun xs gs hx=>by rw [hf1.len];simp) (fun xs gs hx=>hf1.w0 rt l3)<|qp_v (fun xs gs hx=>q_nilck rfl)<|qp_v (fun xs gs hx=>q_fldA fo145_0 (by decide) rfl rfl)<|qp_v (fun xs gs hx=>q_fldA fo143_4 (by decide) rfl rfl)<|qp_storeC (j:=98) (c:=fun _ _=>seC { x with own:=p,root:=rt }++[vP bq 0]) (c':=fun xs _=>seC { x with own:=p,root:=rt,s:=xs 8 }++[vP bq 0]) (vs:=fun xs _=>[xs 8]) (v:=fun xs _=>xs 8) (fun xs gs hx=>rfl) (fun xs gs hx=>rfl) (fun xs gs hx=>by obtain ⟨b,e⟩:=hx.1 rfl;rw [e];rfl) (fun xs gs hx=>rfl) sz141 (fun xs gs hx=>rfl) (fun xs gs hx=>by obtain ⟨b,e⟩:=hx.1 rfl;rw [e];exact one_one rfl) (fun xs gs hx=>by rw [hf2.len];simp) (fun xs gs hx=>by rw [splice_set (by rw [hf2.len];simp)];exact hf2.w4 _)<|qp_end<|fun xs gs hx=>?_
 obtain ⟨⟨b64,e64⟩,fw12,fw16,fw20,_⟩:=hx
 simp only [selI,ownsA,List.contains_cons,List.contains_nil,Nat.reduceBEq,Nat.reduceAdd,Bool.or_false,Bool.or_true,Bool.false_or,Bool.true_or,mask,nRow,nBlk,nRowT,tupAt_0,tupAt_1,List.append_assoc,List.nil_append,List.append_nil,List.cons_append,List.singleton_append,e64]
 refine VL.keep (kp [0,2,3,4,5,26,6,7,43,59] rfl)<|vl_v (q_nilck rfl) rfl<|vl_v (q_fldA fo145_0 (by decide) rfl rfl) rfl<|vl_v (q_fldA fo143_3 (by decide) rfl rfl) rfl<|l_store1 8 rfl rfl rfl sz4 rfl (by rw [(seC_f (hx3 b64) _).len];simp) ?_
 simp only [List.set_cons_zero,List.set_cons_succ]
 rw [(seC_f (hx3 b64) [vP bq 0]).w3 false]
 refine vl_nil<|qn_n<|th_n<|VC_seq<|VC_region<|vl_v (q_assign rfl) rfl<|vl_nil<|th_n<|VC_ret<|⟨_,res1 rfl rfl,?_⟩
 exact ⟨rfl,fun w' H=>⟨b64,St.pickR 9 H (ks:=[8,7,3,1,2]) (by decide) (by decide) rfl rfl⟩⟩
def decB:List Ent→List Value→List MapEntry
 | e::r,.int _ b::s=>⟨.agg e.kc.toArray,.agg (bys e.k).toArray,b.toNat⟩::decB r s
 | _,_=>[]
def decS (L:List Ent):Value→Obj × Option Addr × Nat
 | .agg cs=>match cs.toList with
  | .slice A _ c::.int _ k::s=>(.map (decB L s).toArray k.toNat,A,c)
  | _=>(.map #[] 0,none,0)
 | _=>(.map #[] 0,none,0)
theorem decB_of:∀ (L:List Ent) (es:List MapEntry),es.map (fun e=>(e.key,e.val))=mapE L→decB L (es.map fun e=>Value.int .i64 (e.born:Int))=es
 | [],[],_=>rfl
 | [],_::_,h=>by simp [mapE] at h
 | _::_,[],h=>by simp [mapE] at h
 | e::L,m::es,h=>by
  simp only [mapE,List.map_cons,List.cons.injEq,Prod.mk.injEq] at h
  simp only [List.map_cons,decB,Int.toNat_natCast]
  rw [decB_of L es h.2,← h.1.1,← h.1.2]
theorem sk_ghost {o:Obj} {A:Option Addr} {c:Nat} {L:List Ent} (h:MapOf o (mapE L)):∃ g:Value,decS L g=(o,A,c):=by
 obtain ⟨es,k,rfl,hE⟩:=h
 refine ⟨.agg (Value.slice A 0 c::Value.int .i64 (k:Int)::es.toList.map fun e=>Value.int .i64 (e.born:Int)).toArray,?_⟩
 simp only [decS,Int.toNat_natCast]
 rw [decB_of L es.toList hE]
abbrev SkZ:=Nat × Nat × Obj × Option Addr × Nat
def SkO (L:List Ent) (z:SkZ):List Res:=SkR z.1 z.2.1 z.2.2.1 z.2.2.2.1 z.2.2.2.2 L
def decZ (L:List Ent) (g:Value):SkZ:=match g with
 | .tuple a=>match a.toList with
  | [.int _ b,.int _ m,g']=>(b.toNat,m.toNat,decS L g')
  | _=>(0,0,decS L g)
 | _=>(0,0,decS L g)
theorem skz_ghost {L:List Ent} (z:SkZ) (h:MapOf z.2.2.1 (mapE L)):∃ g:Value,decZ L g=z:=by
 obtain ⟨b,m,o,A,c⟩:=z
 obtain ⟨g,hg⟩:=sk_ghost (A:=A) (c:=c) h
 refine ⟨.tuple #[.int .i64 (b:Int),.int .i64 (m:Int),g],?_⟩
 show (((b:Int).toNat,(m:Int).toNat,decS L g):SkZ)=_
 rw [hg,Int.toNat_natCast,Int.toNat_natCast]
theorem mvZ (X Y Z:List Res):((X++Y)++Z).Perm ((X++Z)++Y):=by
 rw [List.append_assoc,List.append_assoc]
 exact List.Perm.append_left X List.perm_append_comm
theorem newz_calls (w:World):Calls Tryz.prog 63 #[] w fun e w'=>∃ z:SkZ,e=.returned (vP z.1 0)∧MapOf z.2.2.1 (mapE [])∧St [] w (SkO [] z) w' :=
 (new_calls w).mono fun e w' ⟨b,m,h1,o,A,c,h2,h3⟩=>⟨(b,m,o,A,c),h1,h2,by rw [List.append_nil] at h3;exact h3⟩
theorem begin13_calls {w0:World} {R:List Res} (bq:Nat) (sh pub seed:List UInt8) (y:Option Addr × Nat) (m:Nat) (hsh:sh.length=32) (hpub:pub.length=32) (hsd:seed.length≤140737488355328) (hm:m≤1000000) (hc0:comE (comB (sumB (keyB seed m)) pub)=0) (w:World) (H:St [] w0 (srcS bq seed y m++R) w) :
 Calls Tryz.prog 21 #[.agg (bys sh).toArray,.agg (bys pub).toArray,vP bq 0] w fun e w'=>∃ (bs bl bo:Nat) (z:SkZ),e=.returned (.tuple #[vP bs 0,vN 0])∧MapOf z.2.2.1 (mapE [])∧St [] w0 ([.blk bs 145 (seC (turnS ⟨sh,z64,vP bo 0,false,nilP,nilP,0,vP z.1 0⟩ pub (keyB seed m) (vP bl 0))++[vP bq 0]),.blk bl 153 (liC (chainN0 sh (comB (sumB (keyB seed m)) pub)) 0),.blk bo 33 (bys pub)]++(SkO [] z++(srcS bq seed y (m+1)++R))) w':=by
 have hxo:∀ bo d:Nat,SeD.ok ⟨sh,z64,vP bo 0,false,nilP,nilP,0,vP d 0⟩:=fun bo d=>⟨hsh,by show z64.length=64;decide,rfl,rfl,rfl,rfl⟩
 have ht:=fun (R:List Res) (bs bp d:Nat) w1 H1=>rturn_calls (w0:=w0) (R:=R) bs bp bq ⟨sh,z64,vP bp 0,false,nilP,nilP,0,vP d 0⟩ pub seed y m (hxo bp d) rfl rfl hpub hsd hm hc0 w1 H1
 unfold srcS at H ht ⊢
 have lbs:(bys sh).length=32:=by rw [bys_length];exact hsh
 refine enter (n:=22) (R:=fun e L=>∃ (bs bl bo:Nat) (z:SkZ),e=.returned (.tuple #[vP bs 0,vN 0])∧MapOf z.2.2.1 (mapE [])∧∀ w',St [] w0 L w'→St [] w0 ([.blk bs 145 (seC (turnS ⟨sh,z64,vP bo 0,false,nilP,nilP,0,vP z.1 0⟩ pub (keyB seed m) (vP bl 0))++[vP bq 0]),.blk bl 153 (liC (chainN0 sh (comB (sumB (keyB seed m)) pub)) 0),.blk bo 33 (bys pub)]++(SkO [] z++(srcS bq seed y (m+1)++R))) w') [.agg (bys sh).toArray,.agg (bys pub).toArray,vP bq 0] F21 rfl rfl rfl H ?_ (fun e w' L' h H=>by obtain ⟨bs,bl,bo,z,h1,h2,h3⟩:=h;exact ⟨bs,bl,bo,z,h1,h2,h3 w' H⟩)
 refine VC_seq<|VC_region<|l_boxA rfl rfl<|fun b3=>l_boxA rfl rfl<|fun b4=>vl_v (q_assign rfl) rfl<|vl_v (q_assign rfl) rfl<|vl_nil<|th_n<|VC_seq<|VC_frame (X:=[_,_,_,_]) (fun w9 H9=>?_)
 refine VC_drawQ 4 4 [[],[],[0,1],[],[2,3],[4],[5,1,0,2,3,4]] [[],[],[0,1],[],[0,1,2,3],[0,1,2,3,4],[0,1,2,3,4,5]] [([],[],[],[1,2,3],[]),([],[0],[],[1,2,3],[]),([0,1],[],[],[1,2,3],[0,1]),([],[],[],[1,2,3],[])] [1,2,3] [0,1,2,3] rfl rfl (by kernel_rfl)<|qp_v (fun xs gs hx=>q_loads 0 U33 rfl rfl rfl sz33 (by with_reducible assumption)) ?_
 refine qp_callE (fun xs gs v g=>v=vP (decZ [] g).1 0∧MapOf (decZ [] g).2.2.1 (mapE [])) (fun xs gs v g=>.blk b4 33 (bys pub)::SkO [] (decZ [] g)) F63 rfl rfl (args:=fun xs gs=>[]) (fun xs gs hx=>rfl) (fun xs gs hx R w1 H1=>(newz_calls w1).mono fun e w' h=>(by obtain ⟨z,h1,h2,h3⟩:=h;obtain ⟨g9,hg9⟩:=skz_ghost z h2;refine ⟨_,g9,h1,(by intro h;cases h),⟨(by rw [hg9]),(by rw [hg9];exact h2)⟩,?_⟩;rw [hg9];exact (H1.join h3).perm (mvZ [.blk b4 33 (bys pub)] _ (SkO [] z)))) ?_
 refine qp_v (f:=fun xs gs=>.agg (seC ⟨sh,z64,vP b4 0,false,nilP,nilP,0,xs 1⟩).toArray) (fun xs gs hx=>?_) ?_
 ·obtain ⟨e9,_⟩:=hx.1 rfl
  simp only [e9]
  exact q_build (c':=seC ⟨sh,z64,vP b4 0,false,nilP,nilP,0,vP (decZ [] (gs 1)).1 0⟩) rfl (built_st hsh)
 refine qp_v (fun xs gs hx=>q_move rfl)<|qp_end<|fun xs gs hx=>?_
 obtain ⟨f11,_⟩:=hx
 simp only [selI,ownsA,List.contains_cons,List.contains_nil,Nat.reduceBEq,Nat.reduceAdd,Bool.or_false,Bool.or_true,Bool.false_or,Bool.true_or,mask,nRow,nBlk,nRowT,tupAt_0,tupAt_1,List.append_assoc,List.nil_append,List.append_nil,List.cons_append,List.singleton_append]
 obtain ⟨e11,f11⟩:=f11
 simp only [e11]
 obtain ⟨z1,hz1⟩:∃ z,decZ [] (gs 1)=z:=⟨_,rfl⟩
 rw [hz1] at f11 ⊢
 obtain ⟨d1,m1,o1,A1,c1⟩:=z1
 dsimp only at f11 ⊢
 simp only [SkO,SkR,List.cons_append,List.nil_append,List.append_nil]
 have hxl:=seC_length (hxo b4 d1)
 refine VL.keep (kp [0,1,2,3,4,6,7,12,13] rfl)<|vl_v (q_buildS (tot:=103) (sizes:=[102,1]) (c':=seC ⟨sh,z64,vP b4 0,false,nilP,nilP,0,vP d1 0⟩++[vP bq 0]) (by kernel_rfl) rfl rfl rfl rfl (by simp only [List.map_cons,List.map_nil,cellsL,Value.cells,hxl];rfl) (by simp only [flatV,cellsL,Value.cells,List.map_cons,List.map_nil,List.flatten_cons,List.flatten_nil,List.append_nil])) rfl<|l_boxA rfl rfl<|fun b15=>vl_v (q_assign rfl) rfl<|vl_nil<|qn_n<|th_n<|VC_seq<|VC_seq<|VC_region<|vl_v (q_move rfl) rfl<|l_call (F:=fun v L'=>∃ bl:Nat,v=vN 0∧L'=[.blk b15 145 (seC (turnS ⟨sh,z64,vP b4 0,false,nilP,nilP,0,vP d1 0⟩ pub (keyB seed m) (vP bl 0))++[vP bq 0]),.blk bl 153 (liC (chainN0 sh (comB (sumB (keyB seed m)) pub)) 0),.blk b4 33 (bys pub),srcR bq (srcX seed y (m+1)),bodyR 5 seed y,.blk b3 33 (bys sh),.blk d1 170 [.map (some m1),.slice A1 0 c1],.obj m1 o1,.row 189 33 (.slice A1 0 c1) 0 (ordC [])]++R) F64 rfl rfl rfl (fun w1 H1=>(ht (.blk b3 33 (bys sh)::.blk d1 170 [.map (some m1),.slice A1 0 c1]::.obj m1 o1::.row 189 33 (.slice A1 0 c1) 0 (ordC [])::R) b15 b4 d1 w1 (St.pickR (R:=R) 8 H1 (ks:=[0,4,2,3,1,5,6,7]) (by decide) (by decide) rfl rfl)).mono fun e w' h=>?_) rfl ?_
 ·obtain ⟨bl,h1,h2⟩:=h
  exact ⟨_,_,h1,⟨bl,rfl,rfl⟩,h2⟩
 rintro v L' ⟨bl,rfl,rfl⟩
 refine vl_v (q_assign rfl) rfl<|vl_nil<|th_n<|VC_seq<|VC_region<|vl_v (q_move rfl) rfl<|vl_v (q_as (v:=.bool false) (q_neq_k U29 rfl rfl) (by simp)) rfl<|vl_nil<|th_n<|VC_no (rfl)<|VC_skip<|th_n ?_
 refine VC_seq<|VC_region<|vl_v (q_move rfl) rfl<|vl_v (q_assign rfl) rfl<|vl_v (q_assign rfl) rfl<|vl_nil<|th_n<|VC_ret<|⟨_,res2 rfl rfl rfl,?_⟩
 exact ⟨b15,bl,b4,(d1,m1,o1,A1,c1),rfl,f11,fun w' H=>St.pickR (R:=R) 9 H (ks:=[0,1,2,6,7,8,3,4]) (by decide) (by decide) rfl rfl⟩
end Go.Proofs.YtfpdnpppcoomnaaGreat
namespace Go.Proofs.YtfpdnpppcoomnaaGreat
open Go.RowKit Go.PBYtfpdnpppcoomnaaGreat
def errV (k:Nat):Value:=.iface 29 (.int .i64 (k:Int))
def chOf (k:Nat):List PanicEntry:=[{ v:=errV k,recovered:=false }]
def gaveUp:Option Nat→Ending
 | none=>.returned (.tuple #[])
 | some k=>.panicked (chOf k)
theorem run_ta (k:Int) (w:World):(Instr.typeAssert (.iface 29 (.int .i64 k)) 20 29 true).run Tryz.prog w=.ok (.tuple #[.int .i64 k,.bool true]) w:=by
 simp [Instr.typeAssert,go_sem]
theorem catch_some {S:List Nat} {w0:World} {M:List Res} (b k:Nat) (x:Value) (w:World) (H:St S w0 (.blk b 29 [x]::M) w) :
 CallsD Tryz.prog 74 #[vP b 0] (.panicking (chOf k)) w fun e u' w' =>
  e=.returned (.tuple #[])∧u'=.panicking [{ v:=errV k,recovered:=true }]∧St S w0 (.blk b 29 [.int .i64 (k:Int)]::M) w':=by
 refine callsD_of_wpS F74 rfl fun c₀ cs hu=>?_
 unfold chOf errV at hu
 apply wpS_seq
 apply wpS_region
 simp [wpOpsS,go_sem,recoverD,hu,Tryz.ntmps74,Exit.thenS,run_ta]
 refine wpS_of_wp<|wp_mono ((?_:VC Tryz.prog 10 S w0 _ (fun e env L=>e=.normal∧L=.blk b 29 [.int .i64 (k:Int)]::M) [(0,vP b 0),(1,.int .i64 (k:Int)),(2,.bool true)] (.blk b 29 [x]::M)).run _ w ⟨by simp,rfl,?_⟩ H) ?_
 ·exact VC_seq<|VC_region<|vl_v (q_move rfl) rfl<|vl_nil<|th_n<|VC_yes rfl<|VC_region<|vl_v (q_move rfl) rfl<|l_store1 0 rfl rfl rfl sz29 rfl (by simp)<|vl_nil<|⟨rfl,rfl⟩
 ·intro t v ht
  rw [look_cons] at ht
  split at ht
  ·rename_i e;subst e;cases ht;simp
  rw [look_cons] at ht
  split at ht
  ·rename_i e;subst e;cases ht;simp
  rw [look_cons] at ht
  split at ht
  ·rename_i e;subst e;cases ht;simp
  ·cases ht
 ·rintro e a w' ⟨env,L',hm,H',rfl,rfl⟩
  exact ⟨hm.defers,_,rfl,_,results_none rfl _ _ _,rfl,rfl,H'⟩
theorem run_ta0 (w:World):(Instr.typeAssert .nilIface 20 29 true).run Tryz.prog w=.ok (.tuple #[.int .i64 0,.bool false]) w:=by
 have hz:=zr29
 cases h1:Tryz.prog.info? 29 with
 | none=>rw [h1] at hz;simp at hz
 | some i =>
  have h2:i.zero=some (.int .i64 0):=by simpa [h1] using hz
  simp [Instr.typeAssert,go_sem,zeroValue,typeInfo,h1,h2]
theorem catch_none {S:List Nat} {w0:World} {M:List Res} (b:Nat) (x:Value) (w:World) (H:St S w0 (.blk b 29 [x]::M) w) :
 CallsD Tryz.prog 74 #[vP b 0] .returning w fun e u' w' =>
  e=.returned (.tuple #[])∧u'=.returning∧St S w0 (.blk b 29 [x]::M) w':=by
 refine callsD_of_wpS F74 rfl fun c₀ cs hu=>?_
 apply wpS_seq
 apply wpS_region
 simp [wpOpsS,go_sem,recoverD,hu,Tryz.ntmps74,Exit.thenS,run_ta0]
 refine wpS_of_wp<|wp_mono ((?_:VC Tryz.prog 10 S w0 _ (fun e env L=>e=.normal∧L=.blk b 29 [x]::M) [(2,.bool false)] (.blk b 29 [x]::M)).run _ w ⟨by simp,rfl,?_⟩ H) ?_
 ·exact VC_seq<|VC_region<|vl_v (q_move rfl) rfl<|vl_nil<|th_n<|VC_no rfl<|VC_skip<|⟨rfl,rfl⟩
 ·intro t v ht
  rw [look_cons] at ht
  split at ht
  ·rename_i e;subst e;cases ht;simp
  ·cases ht
 ·rintro e a w' ⟨env,L',hm,H',rfl,rfl⟩
  refine ⟨hm.defers,.returning,?_,_,results_none rfl _ _ _,rfl,rfl,H'⟩
  cases c₀
  simp_all
theorem run_loadVar1 {P:Program} {t:TypeId} {d:TypeDesc} {ad:Addr} {v:Value} {w:World} (hu:P.underlying t=some d) (hd:(match d with | .struct _ | .array _ _=>true | _=>false)=false) (hc:w.cell? ad=some v):(loadVar t ad).run P w=.ok v w:=by
 have hagg:(isAgg t).run P w=.ok false w:=by
  unfold isAgg
  rw [Sem.run_bind,run_underlying hu w]
  cases d<;>simp_all
 simp [loadVar,hagg,hc]
theorem wrong_res {S:List Nat} {w0 w:World} {M:List Res} {b:Nat} {v:Value} {a:Act} (h2:a.tmps[2]?=some (vP b 0)) (H:St S w0 (.blk b 29 [v]::M) w):(results Tryz.f33 a.tmps).run Tryz.prog w=.ok v w:=by
 obtain ⟨ad,e,hc⟩:=(H.blk (k:=0) rfl).sl0 0 v rfl
 obtain rfl:=Option.some.inj e
 have hc:w.cell? ⟨b,0,none⟩=some v:=by simpa [Addr.add] using hc
 have hl:=run_loadVar1 (P:=Tryz.prog) (ad:=⟨b,0,none⟩) U29 rfl hc
 have hr:Tryz.f33.results=#[.cell 2 29]:=rfl
 simp [results,hr,Array.getD_eq_getD_getElem?,h2,asAddr,hl]
theorem wrong_calls {ι:Type} {S:List Nat} {w0:World} {L:List Res} {L1:ι→List Res} {G:FuncId} {fnG:Func} {cap:List Value} (r:Option Nat) (hG:Tryz.prog.funcs[G]?=some fnG) (hb:fnG.body.isSome=true) (hn:(fnG.name == "runtime.NumGoroutine")=false)
 (hc:∀ b w1,St S w0 (.blk b 29 [vI 0]::L) w1→Calls Tryz.prog G cap.toArray w1 (fun e w2=>e=gaveUp r∧∃ x,St S w0 (.blk b 29 [vI 0]::L1 x) w2)) (w:World) (H:St S w0 L w) :
 Calls Tryz.prog 33 #[.func (.func G) #[] cap.toArray] w (fun e w'=>e=.returned (vI ((r.getD 0:Nat):Int))∧∃ x,St S w0 (L1 x) w'):=by
 refine calls_of_wp_defers F33 rfl<|wp_seq<|wp_region_lit<|wpl_want rfl (opw_alloc H (i:=(Tryz.prog.info? 29).get!) (z:=vI 0) (by kernel_rfl) (by kernel_rfl) ?_)
 intro w1 b H1
 have H1:St S w0 (.blk b 29 [vI 0]::L) w1:=H1.perm List.perm_append_comm
 unfold wpList
 show Code.wp _ _ _ _ _
 refine wp_seq<|wp_region_lit<|wpl_want rfl (opw_val (v:=.func (.func 74) #[] #[vP b 0]) (w':=w1) (by simp [execOp,Instr.makeFunc,Act.eval,Act.put,Tryz.ntmps33]) ?_)
 refine wpl_want rfl ?_
 unfold Oper.wp
 rw [show ∀ ty pos af (a:Act),a.tmps[3]?=some (.func (.func 74) #[] #[vP b 0])→(execOp a.eval { dst:=none,op:=.defer { callee:=.value (.tmp 3),args:=#[],argTypes:=#[] },type:=ty,pos:=pos,after:=af,guard:=none }).run Tryz.prog w1=.ok (.defer { target:=.fn (.func 74) #[vP b 0],args:=#[] }) w1 from fun ty pos af a h=>by simp [go_sem,Act.eval,h]]
 ·rw [Oper.upon_defer]
  unfold wpList
  show Code.wp _ _ _ _ _
  refine (fun (h:∀ a:Act,a.tmps[0]?=some (.func (.func G) #[] cap.toArray)→a.tmps[2]?=some (vP b 0)→a.tmps.size=6→a.defers=[{ target:=.fn (.func 74) #[vP b 0],args:=#[] }]→Code.wp Tryz.prog _ _ a w1)=>h _ ?_ ?_ ?_ ?_) ?_
  ·simp [Act.put,Tryz.ntmps33]
  ·simp [Act.put,Tryz.ntmps33]
  ·simp [Act.put,Tryz.ntmps33]
  ·rfl
  intro a h0 h2 hs hd
  refine wp_seq<|wp_region_lit<|wpl_want rfl (opw_val (v:=.func (.func G) #[] cap.toArray) (w':=w1) (by simp [execOp,Act.eval,h0]) ?_)
  refine wpl_want rfl ?_
  have hcal:=hc b w1 H1
  have h4:(a.put (some 4) (.func (.func G) #[] cap.toArray)).tmps[4]?=some (.func (.func G) #[] cap.toArray):=put_getElem_same (by omega)
  cases r with
  | none =>
   refine opw_clo cap hG hb hn (caps:=cap.toArray) (by simp [Act.eval,h4]) (by simp) (hcal.mono ?_)
   rintro e w2 ⟨rfl,x,H2⟩
   refine ⟨_,rfl,?_⟩
   unfold wpList
   refine (fun (h:∀ a:Act,a.tmps[2]?=some (vP b 0)→a.defers=[{ target:=.fn (.func 74) #[vP b 0],args:=#[] }]→Code.wp Tryz.prog _ _ a w2)=>h _ ?_ ?_) ?_
   ·rw [put_getElem_ne (by decide),put_getElem_ne (by decide)];exact h2
   ·exact hd
   clear h0 h2 hs hd h4 hcal
   intro a h2 hd
   refine wp_seq (wp_region_lit ?_)
   refine wpl_want rfl (opw_store1 (k:=0) (vI 0) H2 rfl (by simp [Act.eval,h2];rfl) rfl sz29 (by simp) rfl ?_)
   intro w3 H3
   unfold wpList
   refine wp_ret ?_
   show Leaves _ _ _ _ _ _ _
   rw [show (a.put none undef).defers=a.defers from rfl,hd]
   refine leaves_cons (f:=74) (args:=#[vP b 0]) (by simp) (by simp [go_sem])<|(catch_none b (vI 0) w3 H3).mono ?_
   rintro e u w4 ⟨rfl,rfl,H4⟩
   exact ⟨_,wrong_res (a:=a) h2 H4,rfl,x,H4.sub (List.sublist_cons_self _ _)⟩
  | some k =>
   refine opw_cloX cap (ch:=chOf k) hG hb hn (caps:=cap.toArray) (by simp [Act.eval,h4]) (by simp) (hcal.mono ?_)
   ·rintro e w2 ⟨rfl,x,H2⟩
    refine ⟨rfl,?_⟩
    show Leaves _ _ _ _ _ _ _
    rw [show (a.put (some 4) (.func (.func G) #[] cap.toArray)).defers=a.defers from rfl,hd]
    refine leaves_cons (f:=74) (args:=#[vP b 0]) (by simp) (by simp [go_sem])<|(catch_some b k (vI 0) w2 H2).mono ?_
    rintro e u w4 ⟨rfl,rfl,H4⟩
    exact ⟨_,wrong_res (a:=a.put (some 4) (.func (.func G) #[] cap.toArray)) ((put_getElem_ne (by decide)).trans h2) H4,rfl,x,H4.sub (List.sublist_cons_self _ _)⟩
 ·simp [Act.put,Tryz.ntmps33]
end Go.Proofs.YtfpdnpppcoomnaaGreat
namespace Go.PBYtfpdnpppcoomnaaGreat
open Go Go.RowKit
def headC (pub:List UInt8) (p q:Int):List Value:=bys pub++[vI p,vI q]
theorem headC_length {pub:List UInt8} (h:pub.length=32) (p q:Int):(headC pub p q).length=34:=by simp [headC,h,bys]
def rightB (p q:Int):Bool:=decide (0≤min p q)&&decide (max p q≤1000000)
theorem rightB_iff {p q:Int}:rightB p q=true↔0≤p∧p≤1000000∧0≤q∧q≤1000000:=by
 unfold rightB
 rw [Bool.and_eq_true,decide_eq_true_iff,decide_eq_true_iff]
 omega
def headB (pub:List UInt8) (m n:Nat):List UInt8:=pub++highB m 4++highB n 4
theorem headB_length {pub:List UInt8} (h:pub.length=32) (m n:Nat):(headB pub m n).length=40:=by simp [headB,highB_length,h]
def rdP (b:List UInt8):List UInt8:=b.take 32
def rdM (b:List UInt8):Nat:=ofHigh ((b.drop 32).take 4)
def rdN (b:List UInt8):Nat:=ofHigh ((b.drop 36).take 4)
end Go.PBYtfpdnpppcoomnaaGreat
namespace Go.Proofs.YtfpdnpppcoomnaaGreat
open Go.RowKit Go.PBYtfpdnpppcoomnaaGreat
theorem hright_calls (pub:List UInt8) (p q:Int) (hp:pub.length=32) (w:World) :
 Calls Tryz.prog 73 #[.agg (headC pub p q).toArray] w fun e w'=>e=.returned (.bool (rightB p q))∧Kept [] w w':=by
 have h0:=headC_length hp p q
 have g0:(headC pub p q)[32]?=some (vI p):=by unfold headC;rw [List.getElem?_append_right (by simp [bys,hp])];simp [bys,hp]
 have g1:(headC pub p q)[33]?=some (vI q):=by unfold headC;rw [List.getElem?_append_right (by simp [bys,hp])];simp [bys,hp]
 obtain ⟨c,hc⟩:∃ c,headC pub p q=c:=⟨_,rfl⟩
 rw [hc] at h0 g0 g1 ⊢
 refine enter (n:=17) (R:=fun e L=>e=.returned (.bool (rightB p q))) [.agg c.toArray] F73 rfl rfl rfl (St.refl w) ?_ (fun e w' L' h H=>⟨h,H.kept⟩)
 refine VC_seq<|VC_region<|l_boxA rfl rfl<|fun b1=>vl_v (q_assign rfl) rfl<|vl_nil<|th_n<|VC_seq<|VC_region<|vl_v (q_fldA fo35_1 (by decide) rfl rfl) rfl<|vl_v (q_load 0 U3 rfl rfl rfl g0) rfl<|vl_v (q_fldA fo35_2 (by decide) rfl rfl) rfl<|vl_v (q_load 0 U3 rfl rfl rfl g1) rfl ?_
 refine vl_v (q_minI rfl rfl) rfl<|vl_v (q_geq_k U3 rfl rfl) rfl ?_
 by_cases hs8:0≤min p q
 ·skip
  rw [show decide (0≤min p q)=true from decide_eq_true hs8]
  refine vl_v (q_move rfl) rfl<|vl_vg rfl (q_fldA fo35_1 (by decide) rfl rfl) rfl<|vl_vg rfl (q_load 0 U3 rfl rfl rfl g0) rfl<|vl_vg rfl (q_fldA fo35_2 (by decide) rfl rfl) rfl<|vl_vg rfl (q_load 0 U3 rfl rfl rfl g1) rfl<|vl_vg rfl (q_maxI rfl rfl) rfl<|vl_vg rfl (q_leq_k U3 rfl rfl) rfl<|vl_v (q_pickT rfl rfl) rfl<|vl_v (q_assign rfl) rfl<|vl_nil<|th_n<|VC_ret ?_
  refine ⟨_,res1 rfl rfl,?_⟩
  exact congrArg (fun b=>Ending.returned (Value.bool b)) (by unfold rightB;first | (rw [decide_eq_true hs8,Bool.true_and]) | (rw [decide_eq_false hs8,Bool.false_and]))
 ·skip
  rw [show decide (0≤min p q)=false from decide_eq_false hs8]
  refine vl_v (q_move rfl) rfl<|vl_skip rfl rfl<|vl_skip rfl rfl<|vl_skip rfl rfl<|vl_skip rfl rfl<|vl_skip rfl rfl<|vl_skip rfl rfl<|vl_v (q_pickF rfl rfl) rfl<|vl_v (q_assign rfl) rfl<|vl_nil<|th_n<|VC_ret ?_
  refine ⟨_,res1 rfl rfl,?_⟩
  exact congrArg (fun b=>Ending.returned (Value.bool b)) (by unfold rightB;first | (rw [decide_eq_true hs8,Bool.true_and]) | (rw [decide_eq_false hs8,Bool.false_and]))
theorem take_ok {w0:World} {L:List Res} (b:Nat) (l:List UInt8) (A:Option Addr) (m c n:Nat) (hm:m=l.length) (hc:m≤c) (hn:n≤m) (w:World) (H:St [] w0 (.blk b 93 [.slice A m c]::L) w) :
 Calls Tryz.prog 38 #[vP b 0,vN n] w fun e w'=>e=.returned (.slice A n c)∧St [] w0 (.blk b 93 [.slice (adv A n c 1) (m-n) (c-n)]::L) w':=by
 refine enter (n:=30) (R:=fun e M=>e=.returned (.slice A n c)∧M=.blk b 93 [.slice (adv A n c 1) (m-n) (c-n)]::L) [vP b 0,vN n] F38 rfl rfl rfl H ?_ (fun e w' L' h H=>⟨h.1,h.2 ▸ H⟩)
 refine VC_seq<|VC_region<|vl_v (q_assign rfl) rfl<|vl_nil<|th_n<|VC_seq<|VC_seq<|VC_region<|vl_v (q_move rfl) rfl<|vl_v (q_move rfl) rfl<|vl_v (q_nilck rfl) rfl<|vl_v (q_fldA fo93_0 (by decide) rfl rfl) rfl ?_
 refine vl_v (q_load 0 U22 rfl rfl rfl rfl) rfl<|vl_v (q_lenS U22 rfl) rfl<|vl_v (q_gtr_n U3 rfl rfl) rfl<|vl_nil<|th_n<|VC_cond rfl (fun ht12=>?_) (fun ht12=>?_)
 ·skip
  exfalso;have ht12:=of_decide_eq_true ht12;omega
 ·skip
  have ht12:=of_decide_eq_false ht12
  refine VC_skip<|th_n<|VC_seq<|VC_region<|vl_v (q_move rfl) rfl<|vl_v (q_nilck rfl) rfl<|vl_v (q_fldA fo93_0 (by decide) rfl rfl) rfl<|vl_v (q_load 0 U22 rfl rfl rfl rfl) rfl<|vl_v (q_move rfl) rfl<|vl_v (q_slcS0 U22 sz5 rfl ⟨_,rfl⟩ rfl (.inl rfl) (by omega) (by omega)) rfl<|vl_v (q_assign rfl) rfl<|vl_nil ?_
  refine th_n<|VC_seq<|VC_region<|vl_v (q_move rfl) rfl<|vl_v (q_move rfl) rfl<|vl_v (q_nilck rfl) rfl<|vl_v (q_fldA fo93_0 (by decide) rfl rfl) rfl<|vl_v (q_load 0 U22 rfl rfl rfl rfl) rfl<|vl_v (q_move rfl) rfl<|vl_v (q_slcS U22 sz5 rfl ⟨_,rfl⟩ rfl rfl (.inl rfl) (by omega) (by omega) (by omega)) rfl<|vl_v (q_nilck rfl) rfl<|vl_v (q_fldA fo93_0 (by decide) rfl rfl) rfl ?_
  refine l_store1 0 rfl rfl rfl sz22 rfl (by simp;done) ?_
  simp only [List.set_cons_zero,List.set_cons_succ]
  refine vl_nil<|th_n<|VC_seq<|VC_region<|vl_v (q_move rfl) rfl<|vl_v (q_assign rfl) rfl<|vl_nil<|th_n<|VC_ret<|⟨_,res1 rfl rfl,?_⟩
  exact ⟨rfl,rfl⟩
theorem take_bad {w0:World} {L:List Res} (b:Nat) (A:Option Addr) (m c n:Nat) (hn:m<n) (w:World) (H:St [] w0 (.blk b 93 [.slice A m c]::L) w) :
 Calls Tryz.prog 38 #[vP b 0,vN n] w fun e w'=>e=.panicked (chOf 3)∧St [] w0 (.blk b 93 [.slice A m c]::L) w':=by
 refine enter (n:=30) (R:=fun e M=>e=.panicked (chOf 3)∧M=.blk b 93 [.slice A m c]::L) [vP b 0,vN n] F38 rfl rfl rfl H ?_ (fun e w' L' h H=>⟨h.1,h.2 ▸ H⟩)
 refine VC_seq<|VC_region<|vl_v (q_assign rfl) rfl<|vl_nil<|th_n<|VC_seq<|VC_seq<|VC_region<|vl_v (q_move rfl) rfl<|vl_v (q_move rfl) rfl<|vl_v (q_nilck rfl) rfl<|vl_v (q_fldA fo93_0 (by decide) rfl rfl) rfl ?_
 refine vl_v (q_load 0 U22 rfl rfl rfl rfl) rfl<|vl_v (q_lenS U22 rfl) rfl<|vl_v (q_gtr_n U3 rfl rfl) rfl<|vl_nil<|th_n<|VC_cond rfl (fun ht12=>?_) (fun ht12=>?_)
 ·skip
  have ht12:=of_decide_eq_true ht12
  exact VC_region<|vl_v (q_iface U29 rfl) rfl<|l_panic rfl<|th_p<|⟨rfl,rfl⟩
 ·skip
  exfalso;have ht12:=of_decide_eq_false ht12;omega
theorem adv_at {w:World} {A:Option Addr} {l:List UInt8} {m c n:Nat} (h:SlAt w A (bys l)) (hm:m=l.length) (hc:m≤c):SlAt w (adv A n c 1) (bys (l.drop n)):=by
 have:=h.adv (l:=n) (m:=c) (sz:=1) (by simp [bys];omega)
 rw [Nat.mul_one] at this
 rwa [show (bys l).drop n=bys (l.drop n) by simp [bys]] at this
theorem at_take {w:World} {A:Option Addr} {l:List UInt8} {n:Nat} (h:SlAt w A (bys l)):SlAt w A (bys (l.take n)):=by
 rw [show bys (l.take n)=(bys l).take n by simp [bys]]
 exact h.take n
theorem number_ok {w0:World} {L:List Res} (b:Nat) (l:List UInt8) (A:Option Addr) (m c n r:Nat) (hm:m=l.length) (hc:m≤c) (hn:n≤m) (h7:n≤7) (hA:SlAt w0 A (bys l)) (hr:ofHigh (l.take n)=r) (w:World) (H:St [] w0 (.blk b 93 [.slice A m c]::L) w) :
 Calls Tryz.prog 35 #[vP b 0,vN n] w fun e w'=>e=.returned (vN r)∧St [] w0 (.blk b 93 [.slice (adv A n c 1) (m-n) (c-n)]::L) w':=by
 have hl:(l.take n).length=n:=by rw [List.length_take];omega
 have hr2:=ofHigh_lt7 (l.take n) (by omega)
 rw [hr] at hr2
 have hr3:ofHigh ((l.take n).take 8)=r:=by rw [List.take_of_length_le (by omega)];exact hr
 refine enter (n:=10) (R:=fun e M=>e=.returned (vN r)∧M=.blk b 93 [.slice (adv A n c 1) (m-n) (c-n)]::L) [vP b 0,vN n] F35 rfl rfl rfl H ?_ (fun e w' L' h H=>⟨h.1,h.2 ▸ H⟩)
 refine VC_seq<|VC_region<|vl_v (q_assign rfl) rfl<|vl_nil<|th_n<|VC_seq<|VC_region<|vl_v (q_move rfl) rfl<|vl_v (q_move rfl) rfl<|l_callE F38 rfl rfl rfl (fun w1 H1=>take_ok b l A m c n hm hc hn w1 H1) rfl<|vl_v (q_callV F75 rfl rfl rfl (fun w1 H1=>(hl ▸ ofHigh_calls (l.take n) A c w1 (Reads.old (at_take hA) w1 H1) (by omega) (by omega)).mono fun e w' h=>⟨hr3 ▸ h.1,h.2 ▸ Kept.refl _ _⟩)) rfl ?_
 refine vl_v (q_conv_nn U78 U3 rfl (by omega)) rfl<|vl_v (q_assign rfl) rfl<|vl_nil<|th_n<|VC_ret<|⟨_,res1 rfl rfl,?_⟩
 exact ⟨rfl,rfl⟩
theorem number_bad {w0:World} {L:List Res} (b:Nat) (A:Option Addr) (m c n:Nat) (hn:m<n) (w:World) (H:St [] w0 (.blk b 93 [.slice A m c]::L) w) :
 Calls Tryz.prog 35 #[vP b 0,vN n] w fun e w'=>e=.panicked (chOf 3)∧St [] w0 (.blk b 93 [.slice A m c]::L) w':=by
 refine enter (n:=10) (R:=fun e M=>e=.panicked (chOf 3)∧M=.blk b 93 [.slice A m c]::L) [vP b 0,vN n] F35 rfl rfl rfl H ?_ (fun e w' L' h H=>⟨h.1,h.2 ▸ H⟩)
 exact VC_seq<|VC_region<|vl_v (q_assign rfl) rfl<|vl_nil<|th_n<|VC_seq<|VC_region<|vl_v (q_move rfl) rfl<|vl_v (q_move rfl) rfl<|l_callX F38 rfl rfl rfl (fun w1 H1=>take_bad b A m c n hn w1 H1)<|th_p<|⟨rfl,rfl⟩
theorem key_ok {w0:World} {L:List Res} (b:Nat) (l:List UInt8) (A:Option Addr) (m c:Nat) (hm:m=l.length) (hc:m≤c) (hn:32≤m) (hA:SlAt w0 A (bys l)) (w:World) (H:St [] w0 (.blk b 93 [.slice A m c]::L) w) :
 Calls Tryz.prog 36 #[vP b 0] w fun e w'=>e=.returned (.agg (bys (l.take 32)).toArray)∧St [] w0 (.blk b 93 [.slice (adv A 32 c 1) (m-32) (c-32)]::L) w':=by
 have hl:(l.take 32).length=32:=by rw [List.length_take];omega
 obtain ⟨ad,rfl⟩:=SlAt.some hA (by simp [bys];omega)
 refine enter (n:=7) (R:=fun e M=>e=.returned (.agg (bys (l.take 32)).toArray)∧∃ x,M=x::.blk b 93 [.slice (adv (some ad) 32 c 1) (m-32) (c-32)]::L) [vP b 0] F36 rfl rfl rfl H ?_ (fun e w' L' h H=>⟨h.1,by obtain ⟨_,x,rfl⟩:=h;exact H.sub (List.sublist_cons_self _ _)⟩)
 refine VC_seq<|VC_region<|l_allocA zr33 rfl<|fun b2=>vl_nil<|th_n<|VC_seq<|VC_region<|vl_v (q_move rfl) rfl<|l_callE F38 rfl rfl rfl (fun w1 H1=>(take_ok b l (some ad) m c 32 hm hc hn w1 (H1.perm (List.Perm.swap _ _ _))).mono fun e w' h=>⟨h.1,h.2.perm (List.Perm.swap _ _ _)⟩) rfl ?_
 refine vl_v (q_s2a U33 rfl (by omega)) rfl<|vl_v (q_loadsR (vs:=bys (l.take 32)) U33 rfl (by rw [sz33];simp [bys];omega) rfl (Reads.old (at_take hA))) rfl ?_
 refine l_storeA 0 rfl rfl rfl sz33 (by simp only [zb,zu,zw,zi,za];omega) (by with_reducible first | exact bys_one _ | exact u32s_one _ | exact u64s_one _ | exact i64s_one _ | exact n64s_one _ | assumption) (by simp only [zs,zr,zm,za,zb,zu,zw,zi,zt,zd,zc,zn, *]<;>first | done | omega) ?_
 simp only [List.set_cons_zero,List.set_cons_succ]
 refine vl_nil<|th_n<|VC_ret ?_
 refine ⟨_,resC1 0 rfl U33 rfl rfl rfl sz33 (by simp only [zb,zu,zw,zi,za];omega),?_⟩
 exact ⟨rfl,_,rfl⟩
theorem key_bad {w0:World} {L:List Res} (b:Nat) (A:Option Addr) (m c:Nat) (hn:m<32) (w:World) (H:St [] w0 (.blk b 93 [.slice A m c]::L) w) :
 Calls Tryz.prog 36 #[vP b 0] w fun e w'=>e=.panicked (chOf 3)∧St [] w0 (.blk b 93 [.slice A m c]::L) w':=by
 refine enter (n:=7) (R:=fun e M=>e=.panicked (chOf 3)∧∃ x,M=x::.blk b 93 [.slice A m c]::L) [vP b 0] F36 rfl rfl rfl H ?_ (fun e w' L' h H=>⟨h.1,by obtain ⟨_,x,rfl⟩:=h;exact H.sub (List.sublist_cons_self _ _)⟩)
 refine VC_seq<|VC_region<|l_allocA zr33 rfl<|fun b2=>vl_nil<|th_n<|VC_seq<|VC_region<|vl_v (q_move rfl) rfl<|l_callX F38 rfl rfl rfl (fun w1 H1=>(take_bad b A m c 32 hn w1 (H1.perm (List.Perm.swap _ _ _))).mono fun e w' h=>⟨h.1,h.2.perm (List.Perm.swap _ _ _)⟩) ?_
 exact th_p<|⟨rfl,_,rfl⟩
end Go.Proofs.YtfpdnpppcoomnaaGreat

