/- Words and laws that the proofs of this seat share, part 3 of 10. No condition. -/
import Derived.Test.YtfpdnpppcoomnaaGreatQ40tb
set_option linter.unusedVariables false
set_option linter.unusedSimpArgs false
set_option linter.defProp false
set_option maxRecDepth 100000
set_option maxHeartbeats 16000000
namespace Go.Proofs.YtfpdnpppcoomnaaGreat
open Go.RowKit Go.PBYtfpdnpppcoomnaaGreat
theorem u8info:(Tryz.prog.info? 5).map (fun i=>(i.zero,i.size,i.bytes))=some (some (.int .u8 0),1,1):=by kernel_rfl
theorem u8size:(Tryz.prog.info? 5).map (·.size)=some 1:=by kernel_rfl
theorem low_calls (n:Nat) (m K:Nat) (hK:K=min m 8) (hm:m≤1000000000000000) (w:World) :
 Calls Tryz.prog 69 #[.int .u64 n,.int .i64 m] w fun e w'=>∃ v,e=.returned v∧St [] w [.row 5 1 v K (bys (lowB n K))] w':=by
 have H:=St.refl w
 have hK4:(if 8<(m:Int) then 8 else (m:Int))=(K:Int):=by split<;>omega
 have hK3:K≤8:=by omega
 clear hK
 have h0:(0:Int)≤(m:Int):=by omega
 go_enter F69,Tryz.ntmps69
 go_wp2_with (with_reducible refine stop_make ?_)
 refine wpl_want rfl (opw_make H U22 u8info rfl rfl rfl (by omega) (by simp only [maxLen];omega) ?_)
 clear H
 intro w1 b H
 go_wp2_with (with_reducible refine stop_box ?_)
 go_loopw [13] (fun v wr=>∃ k:Nat,k≤K∧v=.int .i64 k∧St [] w [.blk b 5 (bys (lowB n k)++List.replicate (K-k) (.int .u8 0))] wr) (fun v _=>K-(intOf v).toNat)
 case atStart=>exact ⟨0,Nat.zero_le _,rfl,by simpa [lowB,bys] using H⟩
 case round =>
  clear H
  obtain ⟨k,hk,rfl,H⟩:=hrel
  by_cases hlt:k<K
  ·have hs:(0:Int)≤8*(k:Int):=by omega
   have hs2:8*(k:Int)≤64:=by omega
   go_wp2_with (with_reducible refine stop_store ?_)
   refine wpl_want rfl (opw_store1 (k:=0) (.int .u8 ((n:Int) / 2^(8*k) % 256)) H rfl rfl rfl u8size (by simp [bys,lowB_length];omega) rfl ?_)
   clear H
   intro w2 H
   have e:splice (bys (lowB n k)++List.replicate (K-k) (.int .u8 0)) k [.int .u8 ((n:Int) / 2^(8*k) % 256)]=bys (lowB n (k+1))++List.replicate (K-(k+1)) (.int .u8 0):=by
    rw [splice_fill _ _ _ _ _ (by simp [bys,lowB_length]) (by omega),lowB_succ,lowAt_val]
    simp [bys]
    omega
   go_wp2_with (with_reducible refine stop_box ?_)
   exact ⟨⟨k+1,by omega,by go_num,by rw [← e];exact H⟩,by simp [intOf];omega⟩
  ·go_wp2_with (with_reducible refine stop_box ?_)
   have:k=K:=by omega
   subst this
   go_ret
   exact ⟨_,rfl,by simpa using H.row1 (n:=k) (by simp [bys,lowB_length]) (by simp only [maxLen];omega)⟩
theorem turned_calls (l:List UInt8) (A:Option Addr) (c:Nat) (w:World) (hA:SlAt w A (bys l)) (_hc:l.length≤c) (hl:l.length≤70368744177664) :
 Calls Tryz.prog 68 #[.slice A l.length c] w fun e w'=>∃ v,e=.returned v∧St [] w [.row 5 1 v l.length (bys l.reverse)] w':=by
 have H:=St.refl w
 go_enter F68,Tryz.ntmps68
 go_wp2_with (with_reducible refine stop_make ?_)
 refine wpl_want rfl (opw_make H U22 u8info rfl rfl rfl (by omega) (by simp only [maxLen];omega) ?_)
 clear H
 intro w1 b H
 go_wp2_with (with_reducible refine stop_box ?_)
 go_loopw [11] (fun v wr=>∃ k:Nat,k≤l.length∧v=.int .i64 k∧St [] w [.blk b 5 (List.replicate (l.length-k) (.int .u8 0)++bys (l.take k).reverse)] wr) (fun v _=>l.length-(intOf v).toNat)
 case atStart=>exact ⟨0,Nat.zero_le _,rfl,by simpa [bys] using H⟩
 case round =>
  clear H
  obtain ⟨k,hk,rfl,H⟩:=hrel
  by_cases hlt:k<l.length
  ·obtain ⟨x,hx⟩:∃ x,l[k]?=some x:=⟨_,List.getElem?_eq_getElem (by omega)⟩
   obtain ⟨ad,rfl,hcell⟩:=(H.sl0 hA) k _ (by rw [bys_get,hx];rfl)
   clear hA
   have hj:(0:Int)≤(l.length:Int)-1-(k:Int):=by omega
   have hj3:(l.length:Int)-1-(k:Int)<(l.length:Int):=by omega
   have hx':Hid (l[k]?=some x):=hx
   clear hx
   go_wp2_with (with_reducible refine stop_load ?_)
   refine wpl_want rfl (opw_load U5 rfl rfl hcell ?_)
   go_wp2_with (with_reducible refine stop_store ?_)
   refine wpl_want rfl (opw_store1 (k:=0) (.int .u8 (x.toNat:Int)) H rfl rfl rfl u8size (by simp [bys];omega) rfl ?_)
   clear H hcell
   intro w2 H
   have e:splice (List.replicate (l.length-k) (.int .u8 0)++bys (l.take k).reverse) (l.length-1-k) [.int .u8 (x.toNat:Int)]=List.replicate (l.length-(k+1)) (.int .u8 0)++bys (l.take (k+1)).reverse:=by
    rw [splice_back _ _ _ _ _ (by omega),List.take_add_one,hx'.out]
    simp [bys,Nat.sub_sub,Nat.add_comm]
   go_wp2_with (with_reducible refine stop_box ?_)
   exact ⟨⟨k+1,by omega,by go_num,by rw [← e];exact H⟩,by simp [intOf];omega⟩
  ·go_wp2_with (with_reducible refine stop_box ?_)
   have:k=l.length:=by omega
   subst this
   go_ret
   rw [List.take_length] at H
   exact ⟨_,rfl,by simpa using H.row1 (n:=l.length) (by simp [bys]) (by simp only [maxLen];omega)⟩
theorem ofHigh_calls (l:List UInt8) (A:Option Addr) (c:Nat) (w:World) (hA:SlAt w A (bys l)) (hc:l.length≤c) (hl:l.length≤140737488355328) :
 Calls Tryz.prog 75 #[.slice A l.length c] w fun e w'=>e=.returned (.int .u64 (ofHigh (l.take 8)))∧w=w':=by
 obtain ⟨K,hK⟩:∃ K,K=min l.length 8:=⟨_,rfl⟩
 have hK4:(if 8<(l.length:Int) then 8 else (l.length:Int))=(K:Int):=by split<;>omega
 have hK3:K≤8:=by omega
 have hK5:K≤l.length:=by omega
 have hK6:K≤c:=by omega
 have e8:Hid (l.take 8=l.take K):=by
  by_cases h:l.length≤8
  ·show _=_
   rw [List.take_of_length_le (by omega),List.take_of_length_le (by omega)]
  ·have:K=8:=by omega
   rw [this]
   rfl
 clear hK
 go_enter F75,Tryz.ntmps75
 go_wp2_with (with_reducible refine stop_box ?_)
 go_loop [3,12] (fun n v=>∃ k:Nat,k≤K∧v=.int .i64 k∧n=.int .u64 (ofHigh (l.take k))) (fun _ v=>K-(intOf v).toNat)
 case atStart=>exact ⟨0,Nat.zero_le _,rfl,rfl⟩
 case round =>
  obtain ⟨k,hk,rfl,rfl⟩:=hrel
  by_cases hlt:k<K
  ·obtain ⟨x,hx⟩:∃ x,l[k]?=some x:=⟨_,List.getElem?_eq_getElem (by omega)⟩
   obtain ⟨ad,rfl,hcell⟩:=hA k _ (by rw [bys_get,hx];rfl)
   clear hA
   have h7:ofHigh (l.take k)<72057594037927936:=ofHigh_lt7 _ (by rw [List.length_take];omega)
   have hor:=Lib.hid (or_byte _ x h7)
   have hsn:Hid (ofHigh (l.take (k+1))=ofHigh (l.take k)*256+x.toNat):=by
    show _=_
    rw [List.take_add_one,hx]
    exact ofHigh_snoc _ _
   clear hx
   generalize ofHigh (l.take k)=m at *
   go_wp2_with (with_reducible refine stop_load ?_)
   refine wpl_want rfl (opw_load U5 rfl rfl hcell ?_)
   clear hcell
   go_wp2_with (with_reducible refine stop_box ?_)
   exact ⟨⟨k+1,by omega,by go_num,by rw [hsn.out,u64_byte,hor.out]⟩,by simp [intOf];omega⟩
  ·go_wp2_with (with_reducible refine stop_box ?_)
   have:k=K:=by omega
   subst this
   go_ret
   rw [e8.out]
   exact ⟨rfl,rfl⟩
theorem ofLow_calls (l:List UInt8) (A:Option Addr) (c:Nat) (w:World) (hA:SlAt w A (bys l)) (hc:l.length≤c) (hl:l.length≤140737488355328) :
 Calls Tryz.prog 102 #[.slice A l.length c] w fun e w'=>e=.returned (.int .u64 (ofHigh (l.take 8).reverse))∧Kept [] w w':=by
 obtain ⟨K,hK⟩:∃ K,K=min l.length 8:=⟨_,rfl⟩
 have hK4:(if 8<(l.length:Int) then 8 else (l.length:Int))=(K:Int):=by split<;>omega
 have hK3:K≤8:=by omega
 have hK5:K≤l.length:=by omega
 have hK6:K≤c:=by omega
 have e8:l.take 8=l.take K:=by
  by_cases h:l.length≤8
  ·rw [List.take_of_length_le (by omega),List.take_of_length_le (by omega)]
  ·have:K=8:=by omega
   rw [this]
 rw [e8]
 have el:(l.take K).length=K:=by rw [List.length_take];omega
 clear hK e8
 have hT:=turned_calls (l.take K) A c w (by rw [← bys_take];exact hA.take K) (by omega) (by omega)
 generalize l.take K=t at *
 have hk:=Lib.hid el
 subst el
 clear hk
 go_enter F102,Tryz.ntmps102
 go_wp2_with (with_reducible refine stop_box ?_)
 refine hT.mono ?_
 clear hT
 rintro e w1 ⟨v,rfl,H1⟩
 obtain ⟨B,cap,rfl,hc2,_,hB⟩:=(H1.get (k:=0) rfl).slice
 have hO:=ofHigh_calls t.reverse B cap w1 hB (by rw [List.length_reverse];omega) (by rw [List.length_reverse];omega)
 rw [List.length_reverse,List.take_of_length_le (by rw [List.length_reverse];omega)] at hO
 go_wp2_with (with_reducible refine stop_box ?_)
 refine hO.mono ?_
 clear hO
 rintro e w2 ⟨rfl,rfl⟩
 go_wp2_with (with_reducible refine stop_box ?_)
 go_ret
 exact ⟨rfl,H1.kept⟩
theorem high_calls (n:Nat) (m K:Nat) (hK:K=min m 8) (hm:m≤1000000000000000) (w:World) :
 Calls Tryz.prog 26 #[.int .u64 n,.int .i64 m] w fun e w'=>∃ v,e=.returned v∧St [] w [.row 5 1 v K (bys (highB n K))] w':=by
 have hL:=low_calls n m K hK hm w
 have hK8:K≤8:=by omega
 have H:=St.refl w
 clear hK
 go_enter F26,Tryz.ntmps26
 go_wp2_with (with_reducible refine stop_box ?_)
 refine hL.mono ?_
 clear hL
 rintro e w1 ⟨v,rfl,H1⟩
 obtain ⟨A,cap,rfl,hc,_,hA⟩:=(H1.get (k:=0) rfl).slice
 have hT:=turned_calls (lowB n K) A cap w1 hA (by rw [lowB_length];omega) (by rw [lowB_length];omega)
 rw [lowB_length] at hT
 go_wp2_with (with_reducible refine stop_box ?_)
 refine hT.mono ?_
 clear hT
 rintro e w2 ⟨v2,rfl,H2⟩
 go_wp2_with (with_reducible refine stop_box ?_)
 go_ret
 exact ⟨_,rfl,by simpa [highB] using H1.drop.join H2⟩
theorem same_calls (l m:List UInt8) (A B:Option Addr) (c d:Nat) (w:World) (hA:SlAt w A (bys l)) (hB:SlAt w B (bys m)) (hc:l.length≤c) (hd:m.length≤d) (hl:l.length≤140737488355328) (hm:m.length≤140737488355328) :
 Calls Tryz.prog 83 #[.slice A l.length c,.slice B m.length d] w fun e w'=>e=.returned (.bool (decide (l=m)))∧Kept [] w w':=by
 have H:=St.refl w
 by_cases hn:l.length=m.length
 ·rw [hn] at hc hl ⊢
  have hn2:=Lib.hid hn
  clear hn
  go_enter F83,Tryz.ntmps83
  go_wp2_with (with_reducible refine stop_box ?_)
  go_loopw [5,14] (fun o v wr=>∃ (k:Nat) (q:UInt8),k≤m.length∧v=.int .i64 k∧o=.int .u8 q.toNat∧Hid (q=0↔l.take k=m.take k)∧Kept [] w wr) (fun _ v _=>m.length-(intOf v).toNat)
  case atStart=>exact ⟨0,0,Nat.zero_le _,rfl,rfl,by simp [Hid],Kept.refl _ _⟩
  case round =>
   obtain ⟨k,q,hk,rfl,rfl,hq,hK⟩:=hrel
   by_cases hlt:k<m.length
   ·obtain ⟨x,hx⟩:∃ x,l[k]?=some x:=⟨_,List.getElem?_eq_getElem (by have:=hn2.out;omega)⟩
    obtain ⟨y,hy⟩:∃ x,m[k]?=some x:=⟨_,List.getElem?_eq_getElem (by omega)⟩
    obtain ⟨ad,rfl,hcell⟩:=(hA.keep hK) k _ (by rw [bys_get,hx];rfl)
    obtain ⟨bd,rfl,hdell⟩:=(hB.keep hK) k _ (by rw [bys_get,hy];rfl)
    have hxy:=Lib.hid (And.intro hx hy)
    clear hA hB hx hy
    go_wp2_with (with_reducible refine stop_box ?_)
    go_quiet (fail)
    go_wp2_with (with_reducible refine stop_box ?_)
    refine ⟨⟨k+1,q ||| (x ^^^ y),by omega,by go_num,by rw [bits_xor_u8,bits_or_u8],?_,hK.drewN nq⟩,by simp [intOf];omega⟩
    obtain ⟨hx,hy⟩:=hxy.out
    show _↔_
    rw [u8_or_zero,u8_xor_zero,hq.out,List.take_add_one,List.take_add_one,hx,hy]
    constructor
    ·rintro ⟨h1,rfl⟩;rw [h1]
    ·intro h
     have:=List.append_inj' h rfl
     exact ⟨this.1,by simpa using this.2⟩
   ·go_wp2_with (with_reducible refine stop_box ?_)
    go_ret
    refine ⟨?_,hK⟩
    have hk':k=m.length:=by omega
    have hq':=hq.out
    rw [hk',List.take_length,← hn2.out,List.take_length] at hq'
    show Ending.returned (.bool ((q.toNat:Int)==0))=_
    congr 2
    rw [Bool.eq_iff_iff,beq_iff_eq,decide_eq_true_iff,← hq']
    constructor
    ·intro h;exact UInt8.toNat_inj.1 (by simp;omega)
    ·rintro rfl;rfl
 ·have hn':((l.length:Int) != (m.length:Int))=true:=by rw [bne_iff_ne];omega
  have hne:Hid (l≠m):=fun h=>hn (by rw [h])
  go_enter F83,Tryz.ntmps83
  go_wp2_with (with_reducible refine stop_box ?_)
  go_ret
  refine ⟨?_,Kept.refl _ _⟩
  rw [decide_eq_false hne.out]
  rfl
theorem xor_calls (l m:List UInt8) (A B:Option Addr) (c d:Nat) (w:World) (hA:SlAt w A (bys l)) (hB:SlAt w B (bys m)) (hc:l.length≤c) (hd:m.length≤d) (hl:l.length≤70368744177664) (hn:l.length=m.length) :
 Calls Tryz.prog 116 #[.slice A l.length c,.slice B m.length d] w fun e w'=>∃ v,e=.returned (.tuple #[v,.int .i64 0])∧St [] w [.row 5 1 v l.length (bys (xorB l m))] w':=by
 have H:=St.refl w
 rw [hn] at hc hl ⊢
 have hn2:=Lib.hid hn
 clear hn
 go_enter F116,Tryz.ntmps116
 go_wp2_with (with_reducible refine stop_make ?_)
 refine wpl_want rfl (opw_make H U22 u8info rfl rfl rfl (by omega) (by simp only [maxLen];omega) ?_)
 clear H
 intro w1 b H
 go_wp2_with (with_reducible refine stop_box ?_)
 go_loopw [18] (fun v wr=>∃ k:Nat,k≤m.length∧v=.int .i64 k∧St [] w [.blk b 5 (bys (xorB (l.take k) (m.take k))++List.replicate (m.length-k) (.int .u8 0))] wr) (fun v _=>m.length-(intOf v).toNat)
 case atStart=>exact ⟨0,Nat.zero_le _,rfl,by simpa [bys,xorB] using H⟩
 case round =>
  clear H
  obtain ⟨k,hk,rfl,H⟩:=hrel
  by_cases hlt:k<m.length
  ·obtain ⟨x,hx⟩:∃ x,l[k]?=some x:=⟨_,List.getElem?_eq_getElem (by have:=hn2.out;omega)⟩
   obtain ⟨y,hy⟩:∃ x,m[k]?=some x:=⟨_,List.getElem?_eq_getElem (by omega)⟩
   obtain ⟨ad,rfl,hcell⟩:=(H.sl0 hA) k _ (by rw [bys_get,hx];rfl)
   obtain ⟨bd,rfl,hdell⟩:=(H.sl0 hB) k _ (by rw [bys_get,hy];rfl)
   have hxy:=Lib.hid (And.intro hx hy)
   clear hA hB hx hy
   go_wp2_with (with_reducible refine stop_box ?_)
   go_still_tail 12,(by kernel_rfl)
   change wpList _ _ _ _ _ wr.drew
   have H':=H.drew
   clear H
   generalize wr.drew=w2 at *
   go_wp2_with (with_reducible refine stop_store ?_)
   refine wpl_want rfl (opw_store1 (k:=0) (.int .u8 (bits .xor .u8 (x.toNat:Int) (y.toNat:Int))) H' rfl rfl rfl u8size (by have:=hn2.out;simp [bys,xorB];omega) rfl ?_)
   clear H'
   intro w3 H
   have e:splice (bys (xorB (l.take k) (m.take k))++List.replicate (m.length-k) (.int .u8 0)) k [.int .u8 (bits .xor .u8 (x.toNat:Int) (y.toNat:Int))]=bys (xorB (l.take (k+1)) (m.take (k+1)))++List.replicate (m.length-(k+1)) (.int .u8 0):=by
    rw [splice_fill _ _ _ _ _ (by have:=hn2.out;simp [bys,xorB];omega) (by omega),List.take_add_one,List.take_add_one,hxy.out.1,hxy.out.2,bits_xor_u8]
    unfold xorB
    rw [List.zipWith_append (by have:=hn2.out;simp;omega)]
    simp [bys]
    omega
   go_wp2_with (with_reducible refine stop_box ?_)
   exact ⟨⟨k+1,by omega,by go_num,by rw [← e];exact H⟩,by simp [intOf];omega⟩
  ·go_wp2_with (with_reducible refine stop_box ?_)
   have:k=m.length:=by omega
   subst this
   go_ret2
   rw [List.take_length,← hn2.out,List.take_length] at H
   have hq:=H.row1 (n:=l.length) (by have:=hn2.out;simp [bys,xorB];omega) (by have:=hn2.out;simp only [maxLen];omega)
   rw [hn2.out] at hq
   exact ⟨_,rfl,by simpa using hq⟩
theorem rot_calls (x:UInt32) (k:Int) (r:Int) (m:Nat) (hr:IntKind.u64.wrap k=r) (hm:IntKind.u64.wrap ((BitVec.ofInt IntKind.u64.bits r &&& BitVec.ofInt IntKind.u64.bits 31).toNat:Int)=(m:Int)) (h31:m<32) (w:World) :
 Calls Tryz.prog 113 #[vU32 x,vI k] w fun e w'=>e=.returned (vU32 (rotl x m))∧Kept [] w w':=by
 refine enter (n:=17) (R:=fun e L=>e=.returned (vU32 (rotl x m))) [vU32 x,vI k] F113 rfl rfl rfl (St.refl w) ?_ (fun e w' L' h H=>⟨h,H.kept⟩)
 refine VC_seq<|VC_region<|vl_v (q_assign rfl) rfl<|vl_nil<|th_n<|VC_seq<|VC_region<|vl_v (q_move rfl) rfl<|vl_v (q_conv_k U3 U163 rfl hr) rfl<|vl_v (q_and_k rfl rfl hm) rfl<|vl_v (q_assign rfl) rfl<|vl_nil ?_
 refine th_n<|VC_seq<|VC_region<|vl_v (q_move rfl) rfl<|vl_v (q_move rfl) rfl<|vl_v (q_shl_u32 rfl rfl) rfl<|vl_v (q_move rfl) rfl<|vl_v (q_move rfl) rfl<|vl_v (q_sub_k rfl rfl (r:=((32-m:Nat):Int)) (by rw [IntKind.wrap_u64];omega)) rfl<|vl_v (q_shr_u32 rfl rfl) rfl<|vl_v (q_or_u32 rfl rfl) rfl<|vl_v (q_assign rfl) rfl ?_
 refine vl_nil<|th_n<|VC_ret<|⟨_,res1 rfl rfl,?_⟩
 exact rfl
theorem mix_calls {S:List Nat} {w0:World} {R:List Res} (l:List UInt32) (ia ib ic id:Nat) (x y:UInt32) (bl:Nat) (hl:l.length=16) (h1:ia<16) (h2:ib<16) (h3:ic<16) (h4:id<16) (w:World) (H:St S w0 (.blk bl 201 (u32s l)::R) w) :
 Calls Tryz.prog 104 #[vP bl ia,vP bl ib,vP bl ic,vP bl id,vU32 x,vU32 y] w fun e w'=>e=.returned (.tuple #[])∧St S w0 (.blk bl 201 (u32s (mixL l ia ib ic id x y))::R) w':=by
 refine enter (n:=88) (R:=fun e L=>e=.returned (.tuple #[])∧L=.blk bl 201 (u32s (mixL l ia ib ic id x y))::R) [vP bl ia,vP bl ib,vP bl ic,vP bl id,vU32 x,vU32 y] F104 rfl rfl rfl H ?_ (fun e w' L' h H=>⟨h.1,h.2 ▸ H⟩)
 refine VC_seq<|VC_drawV 8 [[],[0],[1],[],[3],[4],[],[5,6],[2,7],[0,1,2,3,4,5,6,7,8],[9,8,0,1,2,3,4,5,6,7]] [[],[0],[0,1],[],[3],[3,4],[],[3,4,5,6],[0,1,2,3,4,5,6,7],[0,1,2,3,4,5,6,7,8],[0,1,2,3,4,5,6,7,8,9]] rfl (by kernel_rfl)<|qv_v (q_move rfl)<|qv_v (q_nilck rfl)<|qv_v (q_load 0 U127 rfl rfl rfl (u32s_at (by omega)))<|qv_v (q_move rfl)<|qv_v (q_nilck rfl)<|qv_v (q_load 0 U127 rfl rfl rfl (u32s_at (by omega)))<|qv_v (q_move rfl)<|qv_v (q_add_u32 rfl rfl)<|qv_end<|VL.keep (kp [0,1,2,3,4,5,12,14,19] rfl) ?_
 refine vl_v (q_add_u32 rfl rfl) rfl<|vl_v (q_nilck rfl) rfl<|l_stU32 0 rfl rfl rfl sz127 (by omega) ?_
 simp only [List.set_cons_zero,List.set_cons_succ]
 refine vl_nil<|qn_n<|th_n<|VC_seq<|VC_drawV 9 [[],[],[1],[2],[],[4],[5],[3,6],[7],[0,1,2,3,4,5,6,7,8],[9,8,0,1,2,3,4,5,6,7]] [[],[],[1],[1,2],[],[4],[4,5],[1,2,3,4,5,6],[1,2,3,4,5,6,7],[0,1,2,3,4,5,6,7,8],[0,1,2,3,4,5,6,7,8,9]] rfl (by kernel_rfl)<|qv_v (q_move rfl)<|qv_v (q_move rfl)<|qv_v (q_nilck rfl) ?_
 refine qv_v (q_load 0 U127 rfl rfl rfl (u32s_at (by simp only [zs,zr,zm,za,zb,zu,zw,zi,zt,zd,zc,zn, *]<;>first | done | omega))) ?_
 refine qv_v (q_move rfl)<|qv_v (q_nilck rfl) ?_
 refine qv_v (q_load 0 U127 rfl rfl rfl (u32s_at (by simp only [zs,zr,zm,za,zb,zu,zw,zi,zt,zd,zc,zn, *]<;>first | done | omega))) ?_
 refine qv_v (q_xor_u32 rfl rfl)<|qv_v (q_callV F113 rfl rfl rfl (fun w1 H1=>rot_calls _ (-16) _ 16 rfl (by decide) (by decide) w1))<|qv_end<|VL.keep (kp [0,1,2,3,4,5,22,30] rfl)<|vl_v (q_nilck rfl) rfl ?_
 refine l_stU32 0 rfl rfl rfl sz127 (by simp only [zs,zr,zm,za,zb,zu,zw,zi,zt,zd,zc,zn, *]<;>first | done | omega) ?_
 simp only [List.set_cons_zero,List.set_cons_succ]
 refine vl_nil<|qn_n<|th_n<|VC_seq<|VC_drawV 6 [[],[0],[1],[],[3],[4],[2,5],[0,1,2,3,4,5,6],[7,6,0,1,2,3,4,5]] [[],[0],[0,1],[],[3],[3,4],[0,1,2,3,4,5],[0,1,2,3,4,5,6],[0,1,2,3,4,5,6,7]] rfl (by kernel_rfl)<|qv_v (q_move rfl)<|qv_v (q_nilck rfl) ?_
 refine qv_v (q_load 0 U127 rfl rfl rfl (u32s_at (by simp only [zs,zr,zm,za,zb,zu,zw,zi,zt,zd,zc,zn, *]<;>first | done | omega))) ?_
 refine qv_v (q_move rfl)<|qv_v (q_nilck rfl) ?_
 refine qv_v (q_load 0 U127 rfl rfl rfl (u32s_at (by simp only [zs,zr,zm,za,zb,zu,zw,zi,zt,zd,zc,zn, *]<;>first | done | omega))) ?_
 refine qv_end<|VL.keep (kp [0,1,2,3,4,5,32,34,37] rfl)<|vl_v (q_add_u32 rfl rfl) rfl<|vl_v (q_nilck rfl) rfl ?_
 refine l_stU32 0 rfl rfl rfl sz127 (by simp only [zs,zr,zm,za,zb,zu,zw,zi,zt,zd,zc,zn, *]<;>first | done | omega) ?_
 simp only [List.set_cons_zero,List.set_cons_succ]
 refine vl_nil<|qn_n<|th_n<|VC_seq<|VC_drawV 9 [[],[],[1],[2],[],[4],[5],[3,6],[7],[0,1,2,3,4,5,6,7,8],[9,8,0,1,2,3,4,5,6,7]] [[],[],[1],[1,2],[],[4],[4,5],[1,2,3,4,5,6],[1,2,3,4,5,6,7],[0,1,2,3,4,5,6,7,8],[0,1,2,3,4,5,6,7,8,9]] rfl (by kernel_rfl)<|qv_v (q_move rfl)<|qv_v (q_move rfl)<|qv_v (q_nilck rfl) ?_
 refine qv_v (q_load 0 U127 rfl rfl rfl (u32s_at (by simp only [zs,zr,zm,za,zb,zu,zw,zi,zt,zd,zc,zn, *]<;>first | done | omega))) ?_
 refine qv_v (q_move rfl)<|qv_v (q_nilck rfl) ?_
 refine qv_v (q_load 0 U127 rfl rfl rfl (u32s_at (by simp only [zs,zr,zm,za,zb,zu,zw,zi,zt,zd,zc,zn, *]<;>first | done | omega))) ?_
 refine qv_v (q_xor_u32 rfl rfl)<|qv_v (q_callV F113 rfl rfl rfl (fun w1 H1=>rot_calls _ (-12) _ 20 rfl (by decide) (by decide) w1))<|qv_end<|VL.keep (kp [0,1,2,3,4,5,40,48] rfl)<|vl_v (q_nilck rfl) rfl ?_
 refine l_stU32 0 rfl rfl rfl sz127 (by simp only [zs,zr,zm,za,zb,zu,zw,zi,zt,zd,zc,zn, *]<;>first | done | omega) ?_
 simp only [List.set_cons_zero,List.set_cons_succ]
 refine vl_nil<|qn_n<|th_n<|VC_seq<|VC_drawV 8 [[],[0],[1],[],[3],[4],[],[5,6],[2,7],[0,1,2,3,4,5,6,7,8],[9,8,0,1,2,3,4,5,6,7]] [[],[0],[0,1],[],[3],[3,4],[],[3,4,5,6],[0,1,2,3,4,5,6,7],[0,1,2,3,4,5,6,7,8],[0,1,2,3,4,5,6,7,8,9]] rfl (by kernel_rfl)<|qv_v (q_move rfl)<|qv_v (q_nilck rfl) ?_
 refine qv_v (q_load 0 U127 rfl rfl rfl (u32s_at (by simp only [zs,zr,zm,za,zb,zu,zw,zi,zt,zd,zc,zn, *]<;>first | done | omega))) ?_
 refine qv_v (q_move rfl)<|qv_v (q_nilck rfl) ?_
 refine qv_v (q_load 0 U127 rfl rfl rfl (u32s_at (by simp only [zs,zr,zm,za,zb,zu,zw,zi,zt,zd,zc,zn, *]<;>first | done | omega))) ?_
 refine qv_v (q_move rfl)<|qv_v (q_add_u32 rfl rfl)<|qv_end<|VL.keep (kp [0,1,2,3,4,5,50,52,57] rfl)<|vl_v (q_add_u32 rfl rfl) rfl<|vl_v (q_nilck rfl) rfl ?_
 refine l_stU32 0 rfl rfl rfl sz127 (by simp only [zs,zr,zm,za,zb,zu,zw,zi,zt,zd,zc,zn, *]<;>first | done | omega) ?_
 simp only [List.set_cons_zero,List.set_cons_succ]
 refine vl_nil<|qn_n<|th_n<|VC_seq<|VC_drawV 9 [[],[],[1],[2],[],[4],[5],[3,6],[7],[0,1,2,3,4,5,6,7,8],[9,8,0,1,2,3,4,5,6,7]] [[],[],[1],[1,2],[],[4],[4,5],[1,2,3,4,5,6],[1,2,3,4,5,6,7],[0,1,2,3,4,5,6,7,8],[0,1,2,3,4,5,6,7,8,9]] rfl (by kernel_rfl)<|qv_v (q_move rfl)<|qv_v (q_move rfl)<|qv_v (q_nilck rfl) ?_
 refine qv_v (q_load 0 U127 rfl rfl rfl (u32s_at (by simp only [zs,zr,zm,za,zb,zu,zw,zi,zt,zd,zc,zn, *]<;>first | done | omega))) ?_
 refine qv_v (q_move rfl)<|qv_v (q_nilck rfl) ?_
 refine qv_v (q_load 0 U127 rfl rfl rfl (u32s_at (by simp only [zs,zr,zm,za,zb,zu,zw,zi,zt,zd,zc,zn, *]<;>first | done | omega))) ?_
 refine qv_v (q_xor_u32 rfl rfl)<|qv_v (q_callV F113 rfl rfl rfl (fun w1 H1=>rot_calls _ (-8) _ 24 rfl (by decide) (by decide) w1))<|qv_end<|VL.keep (kp [0,1,2,3,4,5,60,68] rfl)<|vl_v (q_nilck rfl) rfl ?_
 refine l_stU32 0 rfl rfl rfl sz127 (by simp only [zs,zr,zm,za,zb,zu,zw,zi,zt,zd,zc,zn, *]<;>first | done | omega) ?_
 simp only [List.set_cons_zero,List.set_cons_succ]
 refine vl_nil<|qn_n<|th_n<|VC_seq<|VC_drawV 6 [[],[0],[1],[],[3],[4],[2,5],[0,1,2,3,4,5,6],[7,6,0,1,2,3,4,5]] [[],[0],[0,1],[],[3],[3,4],[0,1,2,3,4,5],[0,1,2,3,4,5,6],[0,1,2,3,4,5,6,7]] rfl (by kernel_rfl)<|qv_v (q_move rfl)<|qv_v (q_nilck rfl) ?_
 refine qv_v (q_load 0 U127 rfl rfl rfl (u32s_at (by simp only [zs,zr,zm,za,zb,zu,zw,zi,zt,zd,zc,zn, *]<;>first | done | omega))) ?_
 refine qv_v (q_move rfl)<|qv_v (q_nilck rfl) ?_
 refine qv_v (q_load 0 U127 rfl rfl rfl (u32s_at (by simp only [zs,zr,zm,za,zb,zu,zw,zi,zt,zd,zc,zn, *]<;>first | done | omega))) ?_
 refine qv_end<|VL.keep (kp [0,1,2,3,4,5,70,72,75] rfl)<|vl_v (q_add_u32 rfl rfl) rfl<|vl_v (q_nilck rfl) rfl ?_
 refine l_stU32 0 rfl rfl rfl sz127 (by simp only [zs,zr,zm,za,zb,zu,zw,zi,zt,zd,zc,zn, *]<;>first | done | omega) ?_
 simp only [List.set_cons_zero,List.set_cons_succ]
 refine vl_nil<|qn_n<|th_n<|VC_drawV 9 [[],[],[1],[2],[],[4],[5],[3,6],[7],[0,1,2,3,4,5,6,7,8],[9,8,0,1,2,3,4,5,6,7]] [[],[],[1],[1,2],[],[4],[4,5],[1,2,3,4,5,6],[1,2,3,4,5,6,7],[0,1,2,3,4,5,6,7,8],[0,1,2,3,4,5,6,7,8,9]] rfl (by kernel_rfl)<|qv_v (q_move rfl)<|qv_v (q_move rfl)<|qv_v (q_nilck rfl) ?_
 refine qv_v (q_load 0 U127 rfl rfl rfl (u32s_at (by simp only [zs,zr,zm,za,zb,zu,zw,zi,zt,zd,zc,zn, *]<;>first | done | omega))) ?_
 refine qv_v (q_move rfl)<|qv_v (q_nilck rfl) ?_
 refine qv_v (q_load 0 U127 rfl rfl rfl (u32s_at (by simp only [zs,zr,zm,za,zb,zu,zw,zi,zt,zd,zc,zn, *]<;>first | done | omega))) ?_
 refine qv_v (q_xor_u32 rfl rfl)<|qv_v (q_callV F113 rfl rfl rfl (fun w1 H1=>rot_calls _ (-7) _ 25 rfl (by decide) (by decide) w1))<|qv_end<|VL.keep (kp [0,1,2,3,4,5,78,86] rfl)<|vl_v (q_nilck rfl) rfl ?_
 refine l_stU32 0 rfl rfl rfl sz127 (by simp only [zs,zr,zm,za,zb,zu,zw,zi,zt,zd,zc,zn, *]<;>first | done | omega) ?_
 simp only [List.set_cons_zero,List.set_cons_succ]
 refine vl_nil<|qn_n<|⟨_,res0 rfl,?_⟩
 exact ⟨rfl,rfl⟩
theorem first_calls (w:World) :
 Calls Tryz.prog 89 #[] w fun e w'=>e=.returned (.agg (u32s iv).toArray)∧Kept [] w w':=by
 refine enter (n:=2) (R:=fun e L=>e=.returned (.agg (u32s iv).toArray)) [] F89 rfl rfl rfl (St.refl w) ?_ (fun e w' L' h H=>⟨h,H.kept⟩)
 refine VC_seq<|VC_region<|l_allocA zr175 rfl<|fun b0=>vl_nil<|th_n<|VC_seq<|VC_region<|vl_v (q_build (c':=u32s iv) rfl (by kernel_rfl)) rfl ?_
 refine l_storeA 0 rfl rfl rfl sz175 (by rfl) (by with_reducible first | exact bys_one _ | exact u32s_one _ | exact u64s_one _ | exact i64s_one _ | exact n64s_one _ | assumption) (by simp only [zs,zr,zm,za,zb,zu,zw,zi,zt,zd,zc,zn, *]<;>first | done | omega) ?_
 simp only [List.set_cons_zero,List.set_cons_succ]
 refine vl_nil<|th_n<|VC_ret<|⟨_,resC1 0 rfl U175 rfl rfl rfl sz175 (by rfl),?_⟩
 exact rfl
theorem rows_calls (w:World) :
 Calls Tryz.prog 103 #[] w fun e w'=>∃ b,e=.returned (vP b 0)∧St [] w [.blk b 218 (bys sRows.flatten)] w':=by
 refine enter (n:=13) (R:=fun e L=>∃ b,e=.returned (vP b 0)∧L=[.blk b 218 (bys sRows.flatten)]) [] F103 rfl rfl rfl (St.refl w) ?_ (fun e w' L' h H=>by obtain ⟨b,h1,rfl⟩:=h;exact ⟨b,h1,H⟩)
 refine VC_seq<|VC_region<|vl_v (q_assign rfl) rfl<|vl_nil<|th_n<|VC_seq<|VC_region<|vl_v (q_build (c':=bys (sRow 0)) rfl (by kernel_rfl)) rfl<|vl_v (q_build (c':=bys (sRow 1)) rfl (by kernel_rfl)) rfl<|vl_v (q_build (c':=bys (sRow 2)) rfl (by kernel_rfl)) rfl<|vl_v (q_build (c':=bys (sRow 3)) rfl (by kernel_rfl)) rfl<|vl_v (q_build (c':=bys (sRow 4)) rfl (by kernel_rfl)) rfl ?_
 refine vl_v (q_build (c':=bys (sRow 5)) rfl (by kernel_rfl)) rfl<|vl_v (q_build (c':=bys (sRow 6)) rfl (by kernel_rfl)) rfl<|vl_v (q_build (c':=bys (sRow 7)) rfl (by kernel_rfl)) rfl<|vl_v (q_build (c':=bys (sRow 8)) rfl (by kernel_rfl)) rfl<|vl_v (q_build (c':=bys (sRow 9)) rfl (by kernel_rfl)) rfl<|vl_v (q_build (c':=bys sRows.flatten) rfl (by kernel_rfl)) rfl<|l_boxA rfl rfl<|fun b12=>vl_v (q_assign rfl) rfl<|vl_nil<|th_n<|VC_ret<|⟨_,res1 rfl rfl,?_⟩
 exact ⟨_,rfl,rfl⟩
theorem of4 {S:List Nat} {w0 w:World} {L:List Res} {b:Nat} {T:TypeId} {c:List Value} {l:List UInt8} (k o r cap:Nat) (H:St S w0 L w) (hk:L[k]?=some (.blk b T c)) (hl:l.length=4) (hv:(c.drop o).take 4=bys l) (hc:4≤cap) (hr:r=4) :
 Calls Tryz.prog 102 #[.slice (some ⟨b,o,none⟩) r cap] w fun e w'=>e=.returned (.int .u64 (ofHigh (l.take 4).reverse))∧Kept [] w w':=by
 subst hr
 have h:=ofLow_calls l (some ⟨b,o,none⟩) cap w (hv ▸ ((H.blk hk).sl o).take 4) (by omega) (by omega)
 rw [hl,List.take_of_length_le (by omega)] at h
 rw [List.take_of_length_le (by omega)]
 exact h
theorem into_true {S:List Nat} {w0:World} {R:List Res} {T:TypeId} {c:List Value} (h:List UInt32) (blk:List UInt8) (t:UInt64) (bh bb o:Nat) (hh:h.length=8) (hb:blk.length=64) (hc:(c.drop o).take 64=bys blk) (w:World) (H:St S w0 (.blk bh 175 (u32s h)::.blk bb T c::R) w) :
 Calls Tryz.prog 90 #[vP bh 0,vP bb o,vU64 t,.bool true] w fun e w'=>e=.returned (.tuple #[])∧St S w0 (.blk bh 175 (u32s (into h blk t true))::.blk bb T c::R) w':=by
 have hm16:=wordsB_length blk 16
 have hv0:=vBeg_length h t true
 rw [hh] at hv0
 obtain ⟨v0,hve⟩:∃ v,v=vBeg h t true:=⟨_,rfl⟩
 rw [← hve] at hv0
 obtain ⟨m16,hme⟩:∃ v,v=wordsB blk 16:=⟨_,rfl⟩
 rw [← hme] at hm16
 have hcl:o+64≤c.length:=by
  have:=congrArg List.length hc
  rw [List.length_take,List.length_drop,bys_length,hb] at this
  omega
 refine enter (n:=153) (R:=fun e L=>e=.returned (.tuple #[])∧∃ M,L=M++(.blk bh 175 (u32s (into h blk t true))::.blk bb T c::R)) [vP bh 0,vP bb o,vU64 t,.bool true] F90 rfl rfl rfl H ?_ (fun e w' L' h H=>by obtain ⟨h1,M,rfl⟩:=h;exact ⟨h1,H.sub (List.sublist_append_right _ _)⟩)
 refine VC_seq<|VC_region<|l_allocA zr201 rfl<|fun b8=>l_allocA zr201 rfl<|fun b9=>vl_nil<|th_n<|VC_seq<|VC_region<|vl_v (q_callV F89 rfl rfl rfl (fun w1 H1=>first_calls w1)) rfl<|l_allocA zr175 rfl<|fun b10=>?_
 refine l_storeA 0 rfl rfl rfl sz175 (by rfl) (by with_reducible first | exact bys_one _ | exact u32s_one _ | exact u64s_one _ | exact i64s_one _ | exact n64s_one _ | assumption) (by simp only [List.length_set,List.length_append,List.length_replicate,u32s_length,bys_length, *]<;>first | done | omega) ?_
 simp only [List.set_cons_zero,List.set_cons_succ]
 refine vl_nil<|th_n<|VC_seq<|VC_drawV 4 [[],[],[1],[2],[0,3]] [[],[],[1],[1,2],[0,1,2,3]] rfl (by kernel_rfl) ?_
 refine qv_v (q_slcA (h:=8) U201 sz127 rfl rfl ⟨_,rfl⟩ rfl (.inl rfl) (by omega) (by omega) (by omega) (by omega) (by (try simp only [Nat.mul_one,Nat.zero_add,Nat.zero_mul,Nat.mul_zero,Nat.add_zero])<;>rfl)) ?_
 refine qv_v (q_move rfl)<|qv_v (q_nilck rfl) ?_
 refine qv_v (q_slcA U175 sz127 rfl rfl rfl rfl (.inl rfl) (by omega) (by omega) (by omega) (by omega) (by (try simp only [Nat.mul_one,Nat.zero_add,Nat.zero_mul,Nat.mul_zero,Nat.add_zero])<;>rfl)) ?_
 refine qv_end<|VL.keep (kp [0,1,2,3,8,9,10,18,21] rfl) ?_
 refine l_copy 2 rfl rfl rfl U202 U202 sz127 (Reads.blk 3 rfl) (by simp only [u32s_length,bys_length,i64s_length,List.length_append];omega) (by with_reducible first | exact bys_one _ | exact u32s_one _ | exact u64s_one _ | exact i64s_one _ | exact n64s_one _ | assumption) (by simp only [List.length_set,List.length_append,List.length_replicate,u32s_length,bys_length, *]<;>first | done | omega) rfl ?_
 simp only [List.set_cons_zero,List.set_cons_succ]
 rw [cp1 h hh]
 refine vl_nil<|qn_n<|th_n<|VC_seq<|VC_drawV 2 [[],[],[0,1]] [[],[],[0,1]] rfl (by kernel_rfl) ?_
 refine qv_v (q_slcA (l:=8) U201 sz127 rfl ⟨_,rfl⟩ rfl rfl (.inl rfl) (by omega) (by omega) (by omega) (by omega) (by (try simp only [Nat.mul_one,Nat.zero_add,Nat.zero_mul,Nat.mul_zero,Nat.add_zero])<;>rfl)) ?_
 refine qv_v (q_slcA U175 sz127 rfl rfl rfl rfl (.inl rfl) (by omega) (by omega) (by omega) (by omega) (by (try simp only [Nat.mul_one,Nat.zero_add,Nat.zero_mul,Nat.mul_zero,Nat.add_zero])<;>rfl)) ?_
 refine qv_end<|VL.keep (kp [0,1,2,3,8,9,10,23,24] rfl) ?_
 refine l_copy 2 rfl rfl rfl U202 U202 sz127 (Reads.blk 0 rfl) (by rfl) (by with_reducible first | exact bys_one _ | exact u32s_one _ | exact u64s_one _ | exact i64s_one _ | exact n64s_one _ | assumption) (by simp only [List.length_set,List.length_append,List.length_replicate,u32s_length,bys_length, *]<;>first | done | omega) rfl ?_
 simp only [List.set_cons_zero,List.set_cons_succ]
 rw [cp2 h hh]
 refine vl_nil<|qn_n<|th_n<|VC_seq<|VC_region ?_
 have hhiv:(h++iv).length=16:=by rw [List.length_append,hh];rfl
 refine vl_v (q_idxA (m:=12) U201 sz127 rfl rfl (by omega) (r:=_) (by rw [Nat.mul_one,Nat.zero_add])) rfl<|vl_v (q_load 2 U127 rfl rfl rfl (u32s_at (by omega))) rfl<|vl_v (q_move rfl) rfl<|vl_v (q_conv_k (r:=((UInt32.ofNat t.toNat).toNat:Int)) U78 U127 rfl (by rw [IntKind.wrap_u32,UInt32.toNat_ofNat'];omega)) rfl<|vl_v (q_xor_u32 rfl rfl) rfl<|vl_v (q_idxA (m:=12) U201 sz127 rfl rfl (by omega) (r:=_) (by rw [Nat.mul_one,Nat.zero_add])) rfl<|l_stU32 2 rfl rfl rfl sz127 (by omega) ?_
 simp only [List.set_cons_zero,List.set_cons_succ]
 refine vl_nil<|th_n<|VC_seq<|VC_region<|vl_v (q_idxA (m:=13) U201 sz127 rfl rfl (by omega) (r:=_) (by rw [Nat.mul_one,Nat.zero_add])) rfl ?_
 refine vl_v (q_load 2 U127 rfl rfl rfl (u32s_at (by simp only [List.length_set,List.length_append,List.length_replicate,u32s_length,bys_length, *]<;>first | done | omega))) rfl ?_
 refine vl_v (q_move rfl) rfl<|vl_v (q_as (v:=vU64 (UInt64.ofNat (t.toNat / 2^32))) (q_shr_u64 (m:=32) rfl rfl) rfl) rfl<|vl_v (q_conv_k (r:=((UInt32.ofNat (t.toNat / 2^32)).toNat:Int)) U78 U127 rfl (by have ht:=UInt64.toNat_lt t;rw [IntKind.wrap_u32,UInt32.toNat_ofNat',UInt64.toNat_ofNat'];omega)) rfl<|vl_v (q_xor_u32 rfl rfl) rfl<|vl_v (q_idxA (m:=13) U201 sz127 rfl rfl (by omega) (r:=_) (by rw [Nat.mul_one,Nat.zero_add])) rfl ?_
 refine l_stU32 2 rfl rfl rfl sz127 (by simp only [List.length_set,List.length_append,List.length_replicate,u32s_length,bys_length, *]<;>first | done | omega) ?_
 simp only [List.set_cons_zero,List.set_cons_succ]
 refine vl_nil<|th_n<|VC_seq<|VC_seq<|VC_region<|vl_v (q_move rfl) rfl<|vl_nil<|th_n<|VC_yes (rfl)<|VC_region<|vl_v (q_idxA (m:=14) U201 sz127 rfl rfl (by omega) (r:=_) (by rw [Nat.mul_one,Nat.zero_add])) rfl ?_
 refine vl_v (q_load 2 U127 rfl rfl rfl (u32s_at (by simp only [List.length_set,List.length_append,List.length_replicate,u32s_length,bys_length, *]<;>first | done | omega))) rfl ?_
 refine vl_v (q_xorUn_u32 rfl) rfl<|vl_v (q_idxA (m:=14) U201 sz127 rfl rfl (by omega) (r:=_) (by rw [Nat.mul_one,Nat.zero_add])) rfl ?_
 refine l_stU32 2 rfl rfl rfl sz127 (by simp only [List.length_set,List.length_append,List.length_replicate,u32s_length,bys_length, *]<;>first | done | omega) ?_
 simp only [List.set_cons_zero,List.set_cons_succ]
 refine vl_nil<|th_n<|VC_seq<|VC_seq<|VC_region<|vl_v (q_move rfl) rfl<|vl_nil<|th_n<|VC_block<|VC_loop (ι:=Nat) (fun i=>i≤16) (fun i=>[(0,vP bh 0),(1,vP bb o),(8,vP b8 0),(9,vP b9 0),(44,vN i)]) (fun i=>.blk b9 201 (u32s (wordsB blk i))::.blk b8 201 (u32s v0)::.blk bh 175 (u32s h)::.blk bb T c::R) (fun i=>16-i) 0 (by omega) (kp [0,1,8,9,44] rfl) (fun w' H=>by rw [hve];exact St.pickR 5 H (ks:=[1,2,3,4]) (by decide) (by decide) rfl rfl) ?_
 rintro i hp
 have hwi:=wordsB_length blk i
 refine VC_seq<|VC_region<|vl_v (q_lss_n (q:=16) U3 rfl rfl) rfl<|vl_nil<|th_n<|VC_seq<|VC_cond rfl (fun ht45=>?_) (fun ht45=>?_)
 ·skip
  have ht45:=of_decide_eq_true ht45
  refine VC_skip<|th_n<|VC_seq<|VC_block<|VC_seq<|VC_region<|vl_v (q_move rfl) rfl<|vl_v (q_assign rfl) rfl<|vl_nil<|th_n<|VC_region<|vl_v (q_move rfl) rfl ?_
  refine vl_v (q_move rfl) rfl<|vl_v (q_nilck rfl) rfl<|vl_v (q_move rfl) rfl<|vl_v (q_mul_n (p:=4) rfl rfl (by omega)) rfl<|vl_v (q_move rfl) rfl<|vl_v (q_mul_n (p:=4) rfl rfl (by omega)) rfl<|vl_v (q_add_n (q:=4) rfl rfl (by omega)) rfl ?_
  refine vl_v (q_slcA U179 sz5 rfl ⟨_,rfl⟩ ⟨_,rfl⟩ rfl (.inl rfl) (by omega) (by omega) (by omega) (by omega) (by (try simp only [Nat.mul_one,Nat.zero_add,Nat.zero_mul,Nat.mul_zero,Nat.add_zero])<;>rfl)) rfl ?_
  refine vl_v (q_callV F102 rfl rfl rfl (fun w1 H1=>of4 (l:=(blk.drop (4*i)).take 4) 3 (o+4*i) _ _ H1 rfl (by rw [List.length_take,List.length_drop];omega) (blkPart hc hb (by omega)) (by omega) (by omega))) rfl<|vl_v (q_as (v:=vU32 (word32 (blk.drop (4*i)))) (q_conv_nu32 U78 U127 rfl) (by rw [List.take_take];rfl)) rfl<|vl_v (q_idxA U201 sz127 rfl rfl (by omega) (r:=_) (by rw [Nat.mul_one,Nat.zero_add])) rfl<|l_stU32 0 rfl rfl rfl sz127 (by omega) ?_
  simp only [List.set_cons_zero,List.set_cons_succ]
  refine vl_nil<|bl_n<|th_n<|VC_region<|vl_v (q_add_n (q:=1) rfl rfl (by omega)) rfl<|vl_v (q_move rfl) rfl<|vl_nil<|th_n<|⟨i+1,by omega,by omega,(kp [0,1,8,9,44] rfl),fun w H=>H⟩
 ·skip
  have ht45:=of_decide_eq_false ht45
  obtain rfl:i=16:=by omega
  rw [← hme]
  refine VC_exit<|(th_x (th_x (bl_xs (th_n ?_))))
  refine VC_seq<|VC_seq<|VC_region<|l_callP F103 rfl rfl rfl (fun w1 H1=>rows_calls w1) rfl<|fun b60=>vl_v (q_nilck rfl) rfl<|vl_v (q_move rfl) rfl<|vl_nil<|th_n<|VC_block<|VC_loop (ι:=Nat) (fun r=>r≤10) (fun r=>[(0,vP bh 0),(8,vP b8 0),(9,vP b9 0),(60,vP b60 0),(62,vN r)]) (fun r=>.blk b8 201 (u32s (rndsM v0 m16 r))::.blk b9 201 (u32s m16)::.blk b60 218 (bys sRows.flatten)::.blk bh 175 (u32s h)::.blk bb T c::R) (fun r=>10-r) 0 (by omega) (kp [0,8,9,60,62] rfl) (fun w H=>St.pickR 5 H (ks:=[2,1,0,3,4]) (by decide) (by decide) rfl rfl) ?_
  rintro r hp
  have hrl:=(rndsM_length v0 m16 r).trans hv0
  refine VC_seq<|VC_region<|vl_v (q_lss_n (q:=10) U3 rfl rfl) rfl<|vl_nil<|th_n<|VC_seq<|VC_cond rfl (fun ht63=>?_) (fun ht63=>?_)
  ·skip
   have ht63:=of_decide_eq_true ht63
   refine VC_skip<|th_n<|VC_seq<|VC_block<|VC_seq<|VC_region ?_
   have hs16:=sRow_length (r:=r) (by omega)
   refine vl_v (q_nilck rfl) rfl<|vl_v (q_idxA U218 sz205 rfl rfl (by omega) rfl) rfl<|vl_v (q_loadsAt 2 U205 rfl rfl rfl sz205 (by exact rowPart (by omega)) (by simp only [u32s_length,bys_length,i64s_length,List.length_append];omega)) rfl<|l_allocA zr205 rfl<|fun b13=>?_
   refine l_storeA 0 rfl rfl rfl sz205 (by simp only [u32s_length,bys_length,i64s_length,List.length_append];omega) (by with_reducible first | exact bys_one _ | exact u32s_one _ | exact u64s_one _ | exact i64s_one _ | exact n64s_one _ | assumption) (by simp only [List.length_set,List.length_append,List.length_replicate,u32s_length,bys_length, *]<;>first | done | omega) ?_
   simp only [List.set_cons_zero,List.set_cons_succ]
   refine vl_nil<|th_n<|VC_seq<|VC_seq<|VC_region<|vl_v (q_move rfl) rfl<|vl_nil<|th_n<|VC_block<|VC_loop (ι:=Nat) (fun k=>k≤4) (fun k=>[(0,vP bh 0),(8,vP b8 0),(9,vP b9 0),(13,vP b13 0),(60,vP b60 0),(62,vN r),(67,vN k)]) (fun k=>.blk b8 201 (u32s (colsM (rndsM v0 m16 r) m16 r k))::.blk b13 205 (bys (sRow r))::.blk b9 201 (u32s m16)::.blk b60 218 (bys sRows.flatten)::.blk bh 175 (u32s h)::.blk bb T c::R) (fun k=>4-k) 0 (by omega) (kp [0,8,9,13,60,62,67] rfl) (fun w H=>St.pickR 6 H (ks:=[1,0,2,3,4,5]) (by decide) (by decide) rfl rfl) ?_
   rintro k hp
   have hcl4:=(colsM_length (rndsM v0 m16 r) m16 r k).trans hrl
   refine VC_seq<|VC_region<|vl_v (q_lss_n (q:=4) U3 rfl rfl) rfl<|vl_nil<|th_n<|VC_seq<|VC_cond rfl (fun ht68=>?_) (fun ht68=>?_)
   ·skip
    have ht68:=of_decide_eq_true ht68
    refine VC_skip<|th_n<|VC_seq<|VC_block<|VC_seq<|VC_region<|vl_v (q_move rfl) rfl<|vl_v (q_assign rfl) rfl<|vl_nil<|th_n ?_
    have s1:((sRow r).getD (2*k) 0).toNat<16:=sg_lt (by omega) (by omega)
    have s2:((sRow r).getD (2*k+1) 0).toNat<16:=sg_lt (by omega) (by omega)
    refine VC_drawV 24 [[],[0],[],[2],[3],[],[5],[6],[],[8],[9],[],[11],[12],[13],[14],[15],[],[17],[18],[19],[20],[21],[22],[1,4,7,10,16,23]] [[],[0],[],[2],[2,3],[],[5],[5,6],[],[8],[8,9],[],[11],[11,12],[11,12,13],[11,12,13,14],[11,12,13,14,15],[],[17],[17,18],[17,18,19],[17,18,19,20],[17,18,19,20,21],[17,18,19,20,21,22],[0,1,2,3,4,5,6,7,8,9,10,11,12,13,14,15,16,17,18,19,20,21,22,23]] rfl (by kernel_rfl)<|qv_v (q_move rfl)<|qv_v (q_idxA U201 sz127 rfl rfl (by omega) (r:=_) (by rw [Nat.mul_one,Nat.zero_add]))<|qv_v (q_move rfl)<|qv_v (q_add_n (p:=4) rfl rfl (by omega))<|qv_v (q_idxA U201 sz127 rfl rfl (by omega) (r:=_) (by rw [Nat.mul_one,Nat.zero_add]))<|qv_v (q_move rfl)<|qv_v (q_add_n (p:=8) rfl rfl (by omega))<|qv_v (q_idxA U201 sz127 rfl rfl (by omega) (r:=_) (by rw [Nat.mul_one,Nat.zero_add]))<|qv_v (q_move rfl)<|qv_v (q_add_n (p:=12) rfl rfl (by omega))<|qv_v (q_idxA U201 sz127 rfl rfl (by omega) (r:=_) (by rw [Nat.mul_one,Nat.zero_add])) ?_
    refine qv_v (q_move rfl)<|qv_v (q_mul_n (p:=2) rfl rfl (by omega))<|qv_v (q_idxA U205 sz5 rfl rfl (by omega) (r:=_) (by rw [Nat.mul_one,Nat.zero_add]))<|qv_v (q_load 1 U5 rfl rfl rfl (bys_at (by omega)))<|qv_v (q_idxA U201 sz127 rfl rfl (by omega) (r:=_) (by rw [Nat.mul_one,Nat.zero_add]))<|qv_v (q_load 2 U127 rfl rfl rfl (u32s_at (by omega)))<|qv_v (q_move rfl)<|qv_v (q_mul_n (p:=2) rfl rfl (by omega))<|qv_v (q_add_n (q:=1) rfl rfl (by omega))<|qv_v (q_idxA U205 sz5 rfl rfl (by omega) (r:=_) (by rw [Nat.mul_one,Nat.zero_add]))<|qv_v (q_load 1 U5 rfl rfl rfl (bys_at (by omega)))<|qv_v (q_idxA U201 sz127 rfl rfl (by omega) (r:=_) (by rw [Nat.mul_one,Nat.zero_add])) ?_
    refine qv_v (q_load 2 U127 rfl rfl rfl (u32s_at (by omega)))<|qv_end<|VL.keep (kp [0,8,9,13,60,62,67,68,14,71,74,77,80,86,93] rfl)<|l_callE F104 rfl rfl rfl (fun w1 H1=>mix_calls (colsM (rndsM v0 m16 r) m16 r k) k (4+k) (8+k) (12+k) _ _ b8 hcl4 (by omega) (by omega) (by omega) (by omega) w1 H1) rfl<|vl_nil<|(qn_n (bl_n (th_n ?_)))
    refine VC_region<|vl_v (q_add_n (q:=1) rfl rfl (by omega)) rfl<|vl_v (q_move rfl) rfl<|vl_nil<|th_n<|⟨k+1,by omega,by omega,(kp [0,8,9,13,60,62,67] rfl),fun w H=>H⟩
   ·skip
    have ht68:=of_decide_eq_false ht68
    obtain rfl:k=4:=by omega
    refine VC_exit<|(th_x (th_x (bl_xs (th_n ?_))))
    refine VC_seq<|VC_region<|vl_v (q_move rfl) rfl<|vl_nil<|th_n<|VC_block<|VC_loop (ι:=Nat) (fun q=>q≤4) (fun q=>[(0,vP bh 0),(8,vP b8 0),(9,vP b9 0),(13,vP b13 0),(60,vP b60 0),(62,vN r),(96,vN q)]) (fun q=>.blk b8 201 (u32s (diagsM (colsM (rndsM v0 m16 r) m16 r 4) m16 r q))::.blk b13 205 (bys (sRow r))::.blk b9 201 (u32s m16)::.blk b60 218 (bys sRows.flatten)::.blk bh 175 (u32s h)::.blk bb T c::R) (fun q=>4-q) 0 (by omega) (kp [0,8,9,13,60,62,96] rfl) (fun w H=>H) ?_
    rintro q hp
    have hdl:=(diagsM_length (colsM (rndsM v0 m16 r) m16 r 4) m16 r q).trans hcl4
    refine VC_seq<|VC_region<|vl_v (q_lss_n (q:=4) U3 rfl rfl) rfl<|vl_nil<|th_n<|VC_seq<|VC_cond rfl (fun ht97=>?_) (fun ht97=>?_)
    ·skip
     have ht97:=of_decide_eq_true ht97
     refine VC_skip<|th_n<|VC_seq<|VC_block<|VC_seq<|VC_region<|vl_v (q_move rfl) rfl<|vl_v (q_assign rfl) rfl<|vl_nil<|th_n ?_
     have s1:((sRow r).getD (8+2*q) 0).toNat<16:=sg_lt (by omega) (by omega)
     have s2:((sRow r).getD (9+2*q) 0).toNat<16:=sg_lt (by omega) (by omega)
     refine VC_drawV 31 [[],[0],[],[2],[3],[4],[5],[],[7],[8],[9],[10],[],[12],[13],[14],[15],[],[17],[18],[19],[20],[21],[22],[],[24],[25],[26],[27],[28],[29],[1,6,11,16,23,30]] [[],[0],[],[2],[2,3],[2,3,4],[2,3,4,5],[],[7],[7,8],[7,8,9],[7,8,9,10],[],[12],[12,13],[12,13,14],[12,13,14,15],[],[17],[17,18],[17,18,19],[17,18,19,20],[17,18,19,20,21],[17,18,19,20,21,22],[],[24],[24,25],[24,25,26],[24,25,26,27],[24,25,26,27,28],[24,25,26,27,28,29],[0,1,2,3,4,5,6,7,8,9,10,11,12,13,14,15,16,17,18,19,20,21,22,23,24,25,26,27,28,29,30]] rfl (by kernel_rfl)<|qv_v (q_move rfl)<|qv_v (q_idxA U201 sz127 rfl rfl (by omega) (r:=_) (by rw [Nat.mul_one,Nat.zero_add]))<|qv_v (q_move rfl)<|qv_v (q_add_n (q:=1) rfl rfl (by omega))<|qv_v (q_rem_n (q:=4) rfl rfl (by omega))<|qv_v (q_add_n (p:=4) rfl rfl (by omega))<|qv_v (q_idxA U201 sz127 rfl rfl (by omega) (r:=_) (by rw [Nat.mul_one,Nat.zero_add]))<|qv_v (q_move rfl)<|qv_v (q_add_n (q:=2) rfl rfl (by omega))<|qv_v (q_rem_n (q:=4) rfl rfl (by omega))<|qv_v (q_add_n (p:=8) rfl rfl (by omega)) ?_
     refine qv_v (q_idxA U201 sz127 rfl rfl (by omega) (r:=_) (by rw [Nat.mul_one,Nat.zero_add]))<|qv_v (q_move rfl)<|qv_v (q_add_n (q:=3) rfl rfl (by omega))<|qv_v (q_rem_n (q:=4) rfl rfl (by omega))<|qv_v (q_add_n (p:=12) rfl rfl (by omega))<|qv_v (q_idxA U201 sz127 rfl rfl (by omega) (r:=_) (by rw [Nat.mul_one,Nat.zero_add]))<|qv_v (q_move rfl)<|qv_v (q_mul_n (p:=2) rfl rfl (by omega))<|qv_v (q_add_n (p:=8) rfl rfl (by omega))<|qv_v (q_idxA U205 sz5 rfl rfl (by omega) (r:=_) (by rw [Nat.mul_one,Nat.zero_add]))<|qv_v (q_load 1 U5 rfl rfl rfl (bys_at (by omega)))<|qv_v (q_idxA U201 sz127 rfl rfl (by omega) (r:=_) (by rw [Nat.mul_one,Nat.zero_add])) ?_
     refine qv_v (q_load 2 U127 rfl rfl rfl (u32s_at (by omega)))<|qv_v (q_move rfl)<|qv_v (q_mul_n (p:=2) rfl rfl (by omega))<|qv_v (q_add_n (p:=9) rfl rfl (by omega))<|qv_v (q_idxA U205 sz5 rfl rfl (by omega) (r:=_) (by rw [Nat.mul_one,Nat.zero_add]))<|qv_v (q_load 1 U5 rfl rfl rfl (bys_at (by omega)))<|qv_v (q_idxA U201 sz127 rfl rfl (by omega) (r:=_) (by rw [Nat.mul_one,Nat.zero_add]))<|qv_v (q_load 2 U127 rfl rfl rfl (u32s_at (by omega)))<|qv_end<|VL.keep (kp [0,8,9,13,60,62,96,97,15,100,105,110,115,122,129] rfl)<|l_callE F104 rfl rfl rfl (fun w1 H1=>mix_calls (diagsM (colsM (rndsM v0 m16 r) m16 r 4) m16 r q) q (4+(q+1) % 4) (8+(q+2) % 4) (12+(q+3) % 4) _ _ b8 hdl (by omega) (by omega) (by omega) (by omega) w1 H1) rfl<|vl_nil ?_
     refine (qn_n (bl_n (th_n ?_)))
     refine VC_region<|vl_v (q_add_n (q:=1) rfl rfl (by omega)) rfl<|vl_v (q_move rfl) rfl<|vl_nil<|th_n<|⟨q+1,by omega,by omega,(kp [0,8,9,13,60,62,96] rfl),fun w H=>H⟩
    ·skip
     have ht97:=of_decide_eq_false ht97
     obtain rfl:q=4:=by omega
     refine VC_exit<|(th_x (th_x (bl_xs (bl_n (th_n ?_)))))
     refine VC_region<|vl_v (q_add_n (q:=1) rfl rfl (by omega)) rfl<|vl_v (q_move rfl) rfl<|vl_nil<|th_n<|⟨r+1,by omega,by omega,(kp [0,8,9,60,62] rfl),fun w H=>St.pickR 6 H (ks:=[0,2,3,4,5]) (by decide) (by decide) rfl rfl⟩
  ·skip
   have ht63:=of_decide_eq_false ht63
   obtain rfl:r=10:=by omega
   refine VC_exit<|(th_x (th_x (bl_xs (th_n ?_))))
   refine VC_seq<|VC_region<|vl_v (q_move rfl) rfl<|vl_nil<|th_n<|VC_block<|VC_loop (ι:=Nat) (fun z=>z≤8) (fun z=>[(0,vP bh 0),(8,vP b8 0),(133,vN z)]) (fun z=>.blk b8 201 (u32s (rndsM v0 m16 10))::.blk bh 175 (u32s (xorV h (rndsM v0 m16 10) z))::.blk bb T c::R) (fun z=>8-z) 0 (by omega) (kp [0,8,133] rfl) (fun w H=>St.pickR 5 H (ks:=[0,3,4]) (by decide) (by decide) rfl rfl) ?_
   rintro z hp
   have hxl:=(xorV_length h (rndsM v0 m16 10) z).trans hh
   refine VC_seq<|VC_region<|vl_v (q_lss_n (q:=8) U3 rfl rfl) rfl<|vl_nil<|th_n<|VC_seq<|VC_cond rfl (fun ht134=>?_) (fun ht134=>?_)
   ·skip
    have ht134:=of_decide_eq_true ht134
    refine VC_skip<|th_n<|VC_seq<|VC_block<|VC_seq<|VC_region<|vl_v (q_move rfl) rfl<|vl_v (q_assign rfl) rfl<|vl_nil<|th_n<|VC_drawV 15 [[],[],[0],[2,1],[3],[],[5],[6],[],[8],[9],[10],[7,11],[4,12],[0],[14,1,0,2,3,4,5,6,7,8,9,10,11,12,13],[15,13,0,1,2,3,4,5,6,7,8,9,10,11,12]] [[],[],[0],[0,1,2],[0,1,2,3],[],[5],[5,6],[],[8],[8,9],[8,9,10],[5,6,7,8,9,10,11],[0,1,2,3,4,5,6,7,8,9,10,11,12],[0],[0,1,2,3,4,5,6,7,8,9,10,11,12,13,14],[0,1,2,3,4,5,6,7,8,9,10,11,12,13,14,15]] rfl (by kernel_rfl)<|qv_v (q_move rfl) ?_
    refine qv_v (q_move rfl)<|qv_v (q_nilck rfl)<|qv_v (q_idxA U175 sz127 rfl rfl (by omega) (r:=_) (by rw [Nat.mul_one,Nat.zero_add]))<|qv_v (q_load 1 U127 rfl rfl rfl (u32s_at (by omega)))<|qv_v (q_move rfl)<|qv_v (q_idxA U201 sz127 rfl rfl (by omega) (r:=_) (by rw [Nat.mul_one,Nat.zero_add]))<|qv_v (q_load 0 U127 rfl rfl rfl (u32s_at (by omega)))<|qv_v (q_move rfl)<|qv_v (q_add_n (q:=8) rfl rfl (by omega))<|qv_v (q_idxA U201 sz127 rfl rfl (by omega) (r:=_) (by rw [Nat.mul_one,Nat.zero_add]))<|qv_v (q_load 0 U127 rfl rfl rfl (u32s_at (by omega)))<|qv_v (q_xor_u32 rfl rfl) ?_
    refine qv_v (q_xor_u32 rfl rfl)<|qv_v (q_nilck rfl)<|qv_end<|VL.keep (kp [0,8,133,134,16,137,149,150] rfl)<|vl_v (q_idxA U175 sz127 rfl rfl (by omega) (r:=_) (by rw [Nat.mul_one,Nat.zero_add])) rfl<|l_stU32 1 rfl rfl rfl sz127 (by omega) ?_
    simp only [List.set_cons_zero,List.set_cons_succ]
    refine vl_nil<|(qn_n (bl_n (th_n ?_)))
    refine VC_region<|vl_v (q_add_n (q:=1) rfl rfl (by omega)) rfl<|vl_v (q_move rfl) rfl<|vl_nil<|th_n<|⟨z+1,by omega,by omega,(kp [0,8,133] rfl),fun w H=>H⟩
   ·skip
    have ht134:=of_decide_eq_false ht134
    obtain rfl:z=8:=by omega
    refine VC_exit<|(th_x (th_x (bl_xs ?_)))
    refine ⟨_,res0 rfl,?_⟩
    exact ⟨rfl,[_],by rw [into,← hve,← hme];rfl⟩
theorem into_false {S:List Nat} {w0:World} {R:List Res} {T:TypeId} {c:List Value} (h:List UInt32) (blk:List UInt8) (t:UInt64) (bh bb o:Nat) (hh:h.length=8) (hb:blk.length=64) (hc:(c.drop o).take 64=bys blk) (w:World) (H:St S w0 (.blk bh 175 (u32s h)::.blk bb T c::R) w) :
 Calls Tryz.prog 90 #[vP bh 0,vP bb o,vU64 t,.bool false] w fun e w'=>e=.returned (.tuple #[])∧St S w0 (.blk bh 175 (u32s (into h blk t false))::.blk bb T c::R) w':=by
 have hm16:=wordsB_length blk 16
 have hv0:=vBeg_length h t false
 rw [hh] at hv0
 obtain ⟨v0,hve⟩:∃ v,v=vBeg h t false:=⟨_,rfl⟩
 rw [← hve] at hv0
 obtain ⟨m16,hme⟩:∃ v,v=wordsB blk 16:=⟨_,rfl⟩
 rw [← hme] at hm16
 have hcl:o+64≤c.length:=by
  have:=congrArg List.length hc
  rw [List.length_take,List.length_drop,bys_length,hb] at this
  omega
 refine enter (n:=153) (R:=fun e L=>e=.returned (.tuple #[])∧∃ M,L=M++(.blk bh 175 (u32s (into h blk t false))::.blk bb T c::R)) [vP bh 0,vP bb o,vU64 t,.bool false] F90 rfl rfl rfl H ?_ (fun e w' L' h H=>by obtain ⟨h1,M,rfl⟩:=h;exact ⟨h1,H.sub (List.sublist_append_right _ _)⟩)
 refine VC_seq<|VC_region<|l_allocA zr201 rfl<|fun b8=>l_allocA zr201 rfl<|fun b9=>vl_nil<|th_n<|VC_seq<|VC_region<|vl_v (q_callV F89 rfl rfl rfl (fun w1 H1=>first_calls w1)) rfl<|l_allocA zr175 rfl<|fun b10=>?_
 refine l_storeA 0 rfl rfl rfl sz175 (by rfl) (by with_reducible first | exact bys_one _ | exact u32s_one _ | exact u64s_one _ | exact i64s_one _ | exact n64s_one _ | assumption) (by simp only [List.length_set,List.length_append,List.length_replicate,u32s_length,bys_length, *]<;>first | done | omega) ?_
 simp only [List.set_cons_zero,List.set_cons_succ]
 refine vl_nil<|th_n<|VC_seq<|VC_drawV 4 [[],[],[1],[2],[0,3]] [[],[],[1],[1,2],[0,1,2,3]] rfl (by kernel_rfl) ?_
 refine qv_v (q_slcA (h:=8) U201 sz127 rfl rfl ⟨_,rfl⟩ rfl (.inl rfl) (by omega) (by omega) (by omega) (by omega) (by (try simp only [Nat.mul_one,Nat.zero_add,Nat.zero_mul,Nat.mul_zero,Nat.add_zero])<;>rfl)) ?_
 refine qv_v (q_move rfl)<|qv_v (q_nilck rfl) ?_
 refine qv_v (q_slcA U175 sz127 rfl rfl rfl rfl (.inl rfl) (by omega) (by omega) (by omega) (by omega) (by (try simp only [Nat.mul_one,Nat.zero_add,Nat.zero_mul,Nat.mul_zero,Nat.add_zero])<;>rfl)) ?_
 refine qv_end<|VL.keep (kp [0,1,2,3,8,9,10,18,21] rfl) ?_
 refine l_copy 2 rfl rfl rfl U202 U202 sz127 (Reads.blk 3 rfl) (by simp only [u32s_length,bys_length,i64s_length,List.length_append];omega) (by with_reducible first | exact bys_one _ | exact u32s_one _ | exact u64s_one _ | exact i64s_one _ | exact n64s_one _ | assumption) (by simp only [List.length_set,List.length_append,List.length_replicate,u32s_length,bys_length, *]<;>first | done | omega) rfl ?_
 simp only [List.set_cons_zero,List.set_cons_succ]
 rw [cp1 h hh]
 refine vl_nil<|qn_n<|th_n<|VC_seq<|VC_drawV 2 [[],[],[0,1]] [[],[],[0,1]] rfl (by kernel_rfl) ?_
 refine qv_v (q_slcA (l:=8) U201 sz127 rfl ⟨_,rfl⟩ rfl rfl (.inl rfl) (by omega) (by omega) (by omega) (by omega) (by (try simp only [Nat.mul_one,Nat.zero_add,Nat.zero_mul,Nat.mul_zero,Nat.add_zero])<;>rfl)) ?_
 refine qv_v (q_slcA U175 sz127 rfl rfl rfl rfl (.inl rfl) (by omega) (by omega) (by omega) (by omega) (by (try simp only [Nat.mul_one,Nat.zero_add,Nat.zero_mul,Nat.mul_zero,Nat.add_zero])<;>rfl)) ?_
 refine qv_end<|VL.keep (kp [0,1,2,3,8,9,10,23,24] rfl) ?_
 refine l_copy 2 rfl rfl rfl U202 U202 sz127 (Reads.blk 0 rfl) (by rfl) (by with_reducible first | exact bys_one _ | exact u32s_one _ | exact u64s_one _ | exact i64s_one _ | exact n64s_one _ | assumption) (by simp only [List.length_set,List.length_append,List.length_replicate,u32s_length,bys_length, *]<;>first | done | omega) rfl ?_
 simp only [List.set_cons_zero,List.set_cons_succ]
 rw [cp2 h hh]
 refine vl_nil<|qn_n<|th_n<|VC_seq<|VC_region ?_
 have hhiv:(h++iv).length=16:=by rw [List.length_append,hh];rfl
 refine vl_v (q_idxA (m:=12) U201 sz127 rfl rfl (by omega) (r:=_) (by rw [Nat.mul_one,Nat.zero_add])) rfl<|vl_v (q_load 2 U127 rfl rfl rfl (u32s_at (by omega))) rfl<|vl_v (q_move rfl) rfl<|vl_v (q_conv_k (r:=((UInt32.ofNat t.toNat).toNat:Int)) U78 U127 rfl (by rw [IntKind.wrap_u32,UInt32.toNat_ofNat'];omega)) rfl<|vl_v (q_xor_u32 rfl rfl) rfl<|vl_v (q_idxA (m:=12) U201 sz127 rfl rfl (by omega) (r:=_) (by rw [Nat.mul_one,Nat.zero_add])) rfl<|l_stU32 2 rfl rfl rfl sz127 (by omega) ?_
 simp only [List.set_cons_zero,List.set_cons_succ]
 refine vl_nil<|th_n<|VC_seq<|VC_region<|vl_v (q_idxA (m:=13) U201 sz127 rfl rfl (by omega) (r:=_) (by rw [Nat.mul_one,Nat.zero_add])) rfl ?_
 refine vl_v (q_load 2 U127 rfl rfl rfl (u32s_at (by simp only [List.length_set,List.length_append,List.length_replicate,u32s_length,bys_length, *]<;>first | done | omega))) rfl ?_
 refine vl_v (q_move rfl) rfl<|vl_v (q_as (v:=vU64 (UInt64.ofNat (t.toNat / 2^32))) (q_shr_u64 (m:=32) rfl rfl) rfl) rfl<|vl_v (q_conv_k (r:=((UInt32.ofNat (t.toNat / 2^32)).toNat:Int)) U78 U127 rfl (by have ht:=UInt64.toNat_lt t;rw [IntKind.wrap_u32,UInt32.toNat_ofNat',UInt64.toNat_ofNat'];omega)) rfl<|vl_v (q_xor_u32 rfl rfl) rfl<|vl_v (q_idxA (m:=13) U201 sz127 rfl rfl (by omega) (r:=_) (by rw [Nat.mul_one,Nat.zero_add])) rfl ?_
 refine l_stU32 2 rfl rfl rfl sz127 (by simp only [List.length_set,List.length_append,List.length_replicate,u32s_length,bys_length, *]<;>first | done | omega) ?_
 simp only [List.set_cons_zero,List.set_cons_succ]
 refine vl_nil<|th_n<|VC_seq<|VC_seq<|VC_region<|vl_v (q_move rfl) rfl<|vl_nil<|th_n<|VC_no (rfl)<|VC_skip<|th_n<|VC_seq ?_
 refine VC_seq<|VC_region<|vl_v (q_move rfl) rfl<|vl_nil<|th_n<|VC_block<|VC_loop (ι:=Nat) (fun i=>i≤16) (fun i=>[(0,vP bh 0),(1,vP bb o),(8,vP b8 0),(9,vP b9 0),(44,vN i)]) (fun i=>.blk b9 201 (u32s (wordsB blk i))::.blk b8 201 (u32s v0)::.blk bh 175 (u32s h)::.blk bb T c::R) (fun i=>16-i) 0 (by omega) (kp [0,1,8,9,44] rfl) (fun w' H=>by rw [hve];exact St.pickR 5 H (ks:=[1,2,3,4]) (by decide) (by decide) rfl rfl) ?_
 rintro i hp
 have hwi:=wordsB_length blk i
 refine VC_seq<|VC_region<|vl_v (q_lss_n (q:=16) U3 rfl rfl) rfl<|vl_nil<|th_n<|VC_seq<|VC_cond rfl (fun ht45=>?_) (fun ht45=>?_)
 ·skip
  have ht45:=of_decide_eq_true ht45
  refine VC_skip<|th_n<|VC_seq<|VC_block<|VC_seq<|VC_region<|vl_v (q_move rfl) rfl<|vl_v (q_assign rfl) rfl<|vl_nil<|th_n<|VC_region<|vl_v (q_move rfl) rfl ?_
  refine vl_v (q_move rfl) rfl<|vl_v (q_nilck rfl) rfl<|vl_v (q_move rfl) rfl<|vl_v (q_mul_n (p:=4) rfl rfl (by omega)) rfl<|vl_v (q_move rfl) rfl<|vl_v (q_mul_n (p:=4) rfl rfl (by omega)) rfl<|vl_v (q_add_n (q:=4) rfl rfl (by omega)) rfl ?_
  refine vl_v (q_slcA U179 sz5 rfl ⟨_,rfl⟩ ⟨_,rfl⟩ rfl (.inl rfl) (by omega) (by omega) (by omega) (by omega) (by (try simp only [Nat.mul_one,Nat.zero_add,Nat.zero_mul,Nat.mul_zero,Nat.add_zero])<;>rfl)) rfl ?_
  refine vl_v (q_callV F102 rfl rfl rfl (fun w1 H1=>of4 (l:=(blk.drop (4*i)).take 4) 3 (o+4*i) _ _ H1 rfl (by rw [List.length_take,List.length_drop];omega) (blkPart hc hb (by omega)) (by omega) (by omega))) rfl<|vl_v (q_as (v:=vU32 (word32 (blk.drop (4*i)))) (q_conv_nu32 U78 U127 rfl) (by rw [List.take_take];rfl)) rfl<|vl_v (q_idxA U201 sz127 rfl rfl (by omega) (r:=_) (by rw [Nat.mul_one,Nat.zero_add])) rfl<|l_stU32 0 rfl rfl rfl sz127 (by omega) ?_
  simp only [List.set_cons_zero,List.set_cons_succ]
  refine vl_nil<|bl_n<|th_n<|VC_region<|vl_v (q_add_n (q:=1) rfl rfl (by omega)) rfl<|vl_v (q_move rfl) rfl<|vl_nil<|th_n<|⟨i+1,by omega,by omega,(kp [0,1,8,9,44] rfl),fun w H=>H⟩
 ·skip
  have ht45:=of_decide_eq_false ht45
  obtain rfl:i=16:=by omega
  rw [← hme]
  refine VC_exit<|(th_x (th_x (bl_xs (th_n ?_))))
  refine VC_seq<|VC_seq<|VC_region<|l_callP F103 rfl rfl rfl (fun w1 H1=>rows_calls w1) rfl<|fun b60=>vl_v (q_nilck rfl) rfl<|vl_v (q_move rfl) rfl<|vl_nil<|th_n<|VC_block<|VC_loop (ι:=Nat) (fun r=>r≤10) (fun r=>[(0,vP bh 0),(8,vP b8 0),(9,vP b9 0),(60,vP b60 0),(62,vN r)]) (fun r=>.blk b8 201 (u32s (rndsM v0 m16 r))::.blk b9 201 (u32s m16)::.blk b60 218 (bys sRows.flatten)::.blk bh 175 (u32s h)::.blk bb T c::R) (fun r=>10-r) 0 (by omega) (kp [0,8,9,60,62] rfl) (fun w H=>St.pickR 5 H (ks:=[2,1,0,3,4]) (by decide) (by decide) rfl rfl) ?_
  rintro r hp
  have hrl:=(rndsM_length v0 m16 r).trans hv0
  refine VC_seq<|VC_region<|vl_v (q_lss_n (q:=10) U3 rfl rfl) rfl<|vl_nil<|th_n<|VC_seq<|VC_cond rfl (fun ht63=>?_) (fun ht63=>?_)
  ·skip
   have ht63:=of_decide_eq_true ht63
   refine VC_skip<|th_n<|VC_seq<|VC_block<|VC_seq<|VC_region ?_
   have hs16:=sRow_length (r:=r) (by omega)
   refine vl_v (q_nilck rfl) rfl<|vl_v (q_idxA U218 sz205 rfl rfl (by omega) rfl) rfl<|vl_v (q_loadsAt 2 U205 rfl rfl rfl sz205 (by exact rowPart (by omega)) (by simp only [u32s_length,bys_length,i64s_length,List.length_append];omega)) rfl<|l_allocA zr205 rfl<|fun b13=>?_
   refine l_storeA 0 rfl rfl rfl sz205 (by simp only [u32s_length,bys_length,i64s_length,List.length_append];omega) (by with_reducible first | exact bys_one _ | exact u32s_one _ | exact u64s_one _ | exact i64s_one _ | exact n64s_one _ | assumption) (by simp only [List.length_set,List.length_append,List.length_replicate,u32s_length,bys_length, *]<;>first | done | omega) ?_
   simp only [List.set_cons_zero,List.set_cons_succ]
   refine vl_nil<|th_n<|VC_seq<|VC_seq<|VC_region<|vl_v (q_move rfl) rfl<|vl_nil<|th_n<|VC_block<|VC_loop (ι:=Nat) (fun k=>k≤4) (fun k=>[(0,vP bh 0),(8,vP b8 0),(9,vP b9 0),(13,vP b13 0),(60,vP b60 0),(62,vN r),(67,vN k)]) (fun k=>.blk b8 201 (u32s (colsM (rndsM v0 m16 r) m16 r k))::.blk b13 205 (bys (sRow r))::.blk b9 201 (u32s m16)::.blk b60 218 (bys sRows.flatten)::.blk bh 175 (u32s h)::.blk bb T c::R) (fun k=>4-k) 0 (by omega) (kp [0,8,9,13,60,62,67] rfl) (fun w H=>St.pickR 6 H (ks:=[1,0,2,3,4,5]) (by decide) (by decide) rfl rfl) ?_
   rintro k hp
   have hcl4:=(colsM_length (rndsM v0 m16 r) m16 r k).trans hrl
   refine VC_seq<|VC_region<|vl_v (q_lss_n (q:=4) U3 rfl rfl) rfl<|vl_nil<|th_n<|VC_seq<|VC_cond rfl (fun ht68=>?_) (fun ht68=>?_)
   ·skip
    have ht68:=of_decide_eq_true ht68
    refine VC_skip<|th_n<|VC_seq<|VC_block<|VC_seq<|VC_region<|vl_v (q_move rfl) rfl<|vl_v (q_assign rfl) rfl<|vl_nil<|th_n ?_
    have s1:((sRow r).getD (2*k) 0).toNat<16:=sg_lt (by omega) (by omega)
    have s2:((sRow r).getD (2*k+1) 0).toNat<16:=sg_lt (by omega) (by omega)
    refine VC_drawV 24 [[],[0],[],[2],[3],[],[5],[6],[],[8],[9],[],[11],[12],[13],[14],[15],[],[17],[18],[19],[20],[21],[22],[1,4,7,10,16,23]] [[],[0],[],[2],[2,3],[],[5],[5,6],[],[8],[8,9],[],[11],[11,12],[11,12,13],[11,12,13,14],[11,12,13,14,15],[],[17],[17,18],[17,18,19],[17,18,19,20],[17,18,19,20,21],[17,18,19,20,21,22],[0,1,2,3,4,5,6,7,8,9,10,11,12,13,14,15,16,17,18,19,20,21,22,23]] rfl (by kernel_rfl)<|qv_v (q_move rfl)<|qv_v (q_idxA U201 sz127 rfl rfl (by omega) (r:=_) (by rw [Nat.mul_one,Nat.zero_add]))<|qv_v (q_move rfl)<|qv_v (q_add_n (p:=4) rfl rfl (by omega))<|qv_v (q_idxA U201 sz127 rfl rfl (by omega) (r:=_) (by rw [Nat.mul_one,Nat.zero_add]))<|qv_v (q_move rfl)<|qv_v (q_add_n (p:=8) rfl rfl (by omega))<|qv_v (q_idxA U201 sz127 rfl rfl (by omega) (r:=_) (by rw [Nat.mul_one,Nat.zero_add]))<|qv_v (q_move rfl)<|qv_v (q_add_n (p:=12) rfl rfl (by omega))<|qv_v (q_idxA U201 sz127 rfl rfl (by omega) (r:=_) (by rw [Nat.mul_one,Nat.zero_add])) ?_
    refine qv_v (q_move rfl)<|qv_v (q_mul_n (p:=2) rfl rfl (by omega))<|qv_v (q_idxA U205 sz5 rfl rfl (by omega) (r:=_) (by rw [Nat.mul_one,Nat.zero_add]))<|qv_v (q_load 1 U5 rfl rfl rfl (bys_at (by omega)))<|qv_v (q_idxA U201 sz127 rfl rfl (by omega) (r:=_) (by rw [Nat.mul_one,Nat.zero_add]))<|qv_v (q_load 2 U127 rfl rfl rfl (u32s_at (by omega)))<|qv_v (q_move rfl)<|qv_v (q_mul_n (p:=2) rfl rfl (by omega))<|qv_v (q_add_n (q:=1) rfl rfl (by omega))<|qv_v (q_idxA U205 sz5 rfl rfl (by omega) (r:=_) (by rw [Nat.mul_one,Nat.zero_add]))<|qv_v (q_load 1 U5 rfl rfl rfl (bys_at (by omega)))<|qv_v (q_idxA U201 sz127 rfl rfl (by omega) (r:=_) (by rw [Nat.mul_one,Nat.zero_add])) ?_
    refine qv_v (q_load 2 U127 rfl rfl rfl (u32s_at (by omega)))<|qv_end<|VL.keep (kp [0,8,9,13,60,62,67,68,14,71,74,77,80,86,93] rfl)<|l_callE F104 rfl rfl rfl (fun w1 H1=>mix_calls (colsM (rndsM v0 m16 r) m16 r k) k (4+k) (8+k) (12+k) _ _ b8 hcl4 (by omega) (by omega) (by omega) (by omega) w1 H1) rfl<|vl_nil<|(qn_n (bl_n (th_n ?_)))
    refine VC_region<|vl_v (q_add_n (q:=1) rfl rfl (by omega)) rfl<|vl_v (q_move rfl) rfl<|vl_nil<|th_n<|⟨k+1,by omega,by omega,(kp [0,8,9,13,60,62,67] rfl),fun w H=>H⟩
   ·skip
    have ht68:=of_decide_eq_false ht68
    obtain rfl:k=4:=by omega
    refine VC_exit<|(th_x (th_x (bl_xs (th_n ?_))))
    refine VC_seq<|VC_region<|vl_v (q_move rfl) rfl<|vl_nil<|th_n<|VC_block<|VC_loop (ι:=Nat) (fun q=>q≤4) (fun q=>[(0,vP bh 0),(8,vP b8 0),(9,vP b9 0),(13,vP b13 0),(60,vP b60 0),(62,vN r),(96,vN q)]) (fun q=>.blk b8 201 (u32s (diagsM (colsM (rndsM v0 m16 r) m16 r 4) m16 r q))::.blk b13 205 (bys (sRow r))::.blk b9 201 (u32s m16)::.blk b60 218 (bys sRows.flatten)::.blk bh 175 (u32s h)::.blk bb T c::R) (fun q=>4-q) 0 (by omega) (kp [0,8,9,13,60,62,96] rfl) (fun w H=>H) ?_
    rintro q hp
    have hdl:=(diagsM_length (colsM (rndsM v0 m16 r) m16 r 4) m16 r q).trans hcl4
    refine VC_seq<|VC_region<|vl_v (q_lss_n (q:=4) U3 rfl rfl) rfl<|vl_nil<|th_n<|VC_seq<|VC_cond rfl (fun ht97=>?_) (fun ht97=>?_)
    ·skip
     have ht97:=of_decide_eq_true ht97
     refine VC_skip<|th_n<|VC_seq<|VC_block<|VC_seq<|VC_region<|vl_v (q_move rfl) rfl<|vl_v (q_assign rfl) rfl<|vl_nil<|th_n ?_
     have s1:((sRow r).getD (8+2*q) 0).toNat<16:=sg_lt (by omega) (by omega)
     have s2:((sRow r).getD (9+2*q) 0).toNat<16:=sg_lt (by omega) (by omega)
     refine VC_drawV 31 [[],[0],[],[2],[3],[4],[5],[],[7],[8],[9],[10],[],[12],[13],[14],[15],[],[17],[18],[19],[20],[21],[22],[],[24],[25],[26],[27],[28],[29],[1,6,11,16,23,30]] [[],[0],[],[2],[2,3],[2,3,4],[2,3,4,5],[],[7],[7,8],[7,8,9],[7,8,9,10],[],[12],[12,13],[12,13,14],[12,13,14,15],[],[17],[17,18],[17,18,19],[17,18,19,20],[17,18,19,20,21],[17,18,19,20,21,22],[],[24],[24,25],[24,25,26],[24,25,26,27],[24,25,26,27,28],[24,25,26,27,28,29],[0,1,2,3,4,5,6,7,8,9,10,11,12,13,14,15,16,17,18,19,20,21,22,23,24,25,26,27,28,29,30]] rfl (by kernel_rfl)<|qv_v (q_move rfl)<|qv_v (q_idxA U201 sz127 rfl rfl (by omega) (r:=_) (by rw [Nat.mul_one,Nat.zero_add]))<|qv_v (q_move rfl)<|qv_v (q_add_n (q:=1) rfl rfl (by omega))<|qv_v (q_rem_n (q:=4) rfl rfl (by omega))<|qv_v (q_add_n (p:=4) rfl rfl (by omega))<|qv_v (q_idxA U201 sz127 rfl rfl (by omega) (r:=_) (by rw [Nat.mul_one,Nat.zero_add]))<|qv_v (q_move rfl)<|qv_v (q_add_n (q:=2) rfl rfl (by omega))<|qv_v (q_rem_n (q:=4) rfl rfl (by omega))<|qv_v (q_add_n (p:=8) rfl rfl (by omega)) ?_
     refine qv_v (q_idxA U201 sz127 rfl rfl (by omega) (r:=_) (by rw [Nat.mul_one,Nat.zero_add]))<|qv_v (q_move rfl)<|qv_v (q_add_n (q:=3) rfl rfl (by omega))<|qv_v (q_rem_n (q:=4) rfl rfl (by omega))<|qv_v (q_add_n (p:=12) rfl rfl (by omega))<|qv_v (q_idxA U201 sz127 rfl rfl (by omega) (r:=_) (by rw [Nat.mul_one,Nat.zero_add]))<|qv_v (q_move rfl)<|qv_v (q_mul_n (p:=2) rfl rfl (by omega))<|qv_v (q_add_n (p:=8) rfl rfl (by omega))<|qv_v (q_idxA U205 sz5 rfl rfl (by omega) (r:=_) (by rw [Nat.mul_one,Nat.zero_add]))<|qv_v (q_load 1 U5 rfl rfl rfl (bys_at (by omega)))<|qv_v (q_idxA U201 sz127 rfl rfl (by omega) (r:=_) (by rw [Nat.mul_one,Nat.zero_add])) ?_
     refine qv_v (q_load 2 U127 rfl rfl rfl (u32s_at (by omega)))<|qv_v (q_move rfl)<|qv_v (q_mul_n (p:=2) rfl rfl (by omega))<|qv_v (q_add_n (p:=9) rfl rfl (by omega))<|qv_v (q_idxA U205 sz5 rfl rfl (by omega) (r:=_) (by rw [Nat.mul_one,Nat.zero_add]))<|qv_v (q_load 1 U5 rfl rfl rfl (bys_at (by omega)))<|qv_v (q_idxA U201 sz127 rfl rfl (by omega) (r:=_) (by rw [Nat.mul_one,Nat.zero_add]))<|qv_v (q_load 2 U127 rfl rfl rfl (u32s_at (by omega)))<|qv_end<|VL.keep (kp [0,8,9,13,60,62,96,97,15,100,105,110,115,122,129] rfl)<|l_callE F104 rfl rfl rfl (fun w1 H1=>mix_calls (diagsM (colsM (rndsM v0 m16 r) m16 r 4) m16 r q) q (4+(q+1) % 4) (8+(q+2) % 4) (12+(q+3) % 4) _ _ b8 hdl (by omega) (by omega) (by omega) (by omega) w1 H1) rfl<|vl_nil ?_
     refine (qn_n (bl_n (th_n ?_)))
     refine VC_region<|vl_v (q_add_n (q:=1) rfl rfl (by omega)) rfl<|vl_v (q_move rfl) rfl<|vl_nil<|th_n<|⟨q+1,by omega,by omega,(kp [0,8,9,13,60,62,96] rfl),fun w H=>H⟩
    ·skip
     have ht97:=of_decide_eq_false ht97
     obtain rfl:q=4:=by omega
     refine VC_exit<|(th_x (th_x (bl_xs (bl_n (th_n ?_)))))
     refine VC_region<|vl_v (q_add_n (q:=1) rfl rfl (by omega)) rfl<|vl_v (q_move rfl) rfl<|vl_nil<|th_n<|⟨r+1,by omega,by omega,(kp [0,8,9,60,62] rfl),fun w H=>St.pickR 6 H (ks:=[0,2,3,4,5]) (by decide) (by decide) rfl rfl⟩
  ·skip
   have ht63:=of_decide_eq_false ht63
   obtain rfl:r=10:=by omega
   refine VC_exit<|(th_x (th_x (bl_xs (th_n ?_))))
   refine VC_seq<|VC_region<|vl_v (q_move rfl) rfl<|vl_nil<|th_n<|VC_block<|VC_loop (ι:=Nat) (fun z=>z≤8) (fun z=>[(0,vP bh 0),(8,vP b8 0),(133,vN z)]) (fun z=>.blk b8 201 (u32s (rndsM v0 m16 10))::.blk bh 175 (u32s (xorV h (rndsM v0 m16 10) z))::.blk bb T c::R) (fun z=>8-z) 0 (by omega) (kp [0,8,133] rfl) (fun w H=>St.pickR 5 H (ks:=[0,3,4]) (by decide) (by decide) rfl rfl) ?_
   rintro z hp
   have hxl:=(xorV_length h (rndsM v0 m16 10) z).trans hh
   refine VC_seq<|VC_region<|vl_v (q_lss_n (q:=8) U3 rfl rfl) rfl<|vl_nil<|th_n<|VC_seq<|VC_cond rfl (fun ht134=>?_) (fun ht134=>?_)
   ·skip
    have ht134:=of_decide_eq_true ht134
    refine VC_skip<|th_n<|VC_seq<|VC_block<|VC_seq<|VC_region<|vl_v (q_move rfl) rfl<|vl_v (q_assign rfl) rfl<|vl_nil<|th_n<|VC_drawV 15 [[],[],[0],[2,1],[3],[],[5],[6],[],[8],[9],[10],[7,11],[4,12],[0],[14,1,0,2,3,4,5,6,7,8,9,10,11,12,13],[15,13,0,1,2,3,4,5,6,7,8,9,10,11,12]] [[],[],[0],[0,1,2],[0,1,2,3],[],[5],[5,6],[],[8],[8,9],[8,9,10],[5,6,7,8,9,10,11],[0,1,2,3,4,5,6,7,8,9,10,11,12],[0],[0,1,2,3,4,5,6,7,8,9,10,11,12,13,14],[0,1,2,3,4,5,6,7,8,9,10,11,12,13,14,15]] rfl (by kernel_rfl)<|qv_v (q_move rfl) ?_
    refine qv_v (q_move rfl)<|qv_v (q_nilck rfl)<|qv_v (q_idxA U175 sz127 rfl rfl (by omega) (r:=_) (by rw [Nat.mul_one,Nat.zero_add]))<|qv_v (q_load 1 U127 rfl rfl rfl (u32s_at (by omega)))<|qv_v (q_move rfl)<|qv_v (q_idxA U201 sz127 rfl rfl (by omega) (r:=_) (by rw [Nat.mul_one,Nat.zero_add]))<|qv_v (q_load 0 U127 rfl rfl rfl (u32s_at (by omega)))<|qv_v (q_move rfl)<|qv_v (q_add_n (q:=8) rfl rfl (by omega))<|qv_v (q_idxA U201 sz127 rfl rfl (by omega) (r:=_) (by rw [Nat.mul_one,Nat.zero_add]))<|qv_v (q_load 0 U127 rfl rfl rfl (u32s_at (by omega)))<|qv_v (q_xor_u32 rfl rfl) ?_
    refine qv_v (q_xor_u32 rfl rfl)<|qv_v (q_nilck rfl)<|qv_end<|VL.keep (kp [0,8,133,134,16,137,149,150] rfl)<|vl_v (q_idxA U175 sz127 rfl rfl (by omega) (r:=_) (by rw [Nat.mul_one,Nat.zero_add])) rfl<|l_stU32 1 rfl rfl rfl sz127 (by omega) ?_
    simp only [List.set_cons_zero,List.set_cons_succ]
    refine vl_nil<|(qn_n (bl_n (th_n ?_)))
    refine VC_region<|vl_v (q_add_n (q:=1) rfl rfl (by omega)) rfl<|vl_v (q_move rfl) rfl<|vl_nil<|th_n<|⟨z+1,by omega,by omega,(kp [0,8,133] rfl),fun w H=>H⟩
   ·skip
    have ht134:=of_decide_eq_false ht134
    obtain rfl:z=8:=by omega
    refine VC_exit<|(th_x (th_x (bl_xs ?_)))
    refine ⟨_,res0 rfl,?_⟩
    exact ⟨rfl,[_],by rw [into,← hve,← hme];rfl⟩
theorem mac_calls (key b:List UInt8) (A B:Option Addr) (ca cb ka:Nat) (hka:ka=key.length) (h0:0<key.length) (hk:key.length≤32) (hb:b.length≤1000000) (w:World) (hA:SlAt w A (bys key)) (hB:SlAt w B (bys b)) (hca:key.length≤ca) (hcb:b.length≤cb) :
 Calls Tryz.prog 67 #[.slice A ka ca,.slice B b.length cb] w fun e w'=>e=.returned (.tuple #[.agg (bys (macB key b)).toArray,.int .i64 0])∧Kept [] w w':=by
 subst hka
 have hN:=allK_length b h0 hk
 have hpk:=padB_length (l:=key) (by omega)
 obtain ⟨al,hal⟩:∃ al,al=allK key b:=⟨_,rfl⟩
 rw [← hal] at hN
 have hal':=hal
 rw [allK_eq b h0] at hal'
 refine enter (n:=71) (R:=fun e L=>e=.returned (.tuple #[.agg (bys (macB key b)).toArray,.int .i64 0])) [.slice A key.length ca,.slice B b.length cb] F67 rfl rfl rfl (St.refl w) ?_ (fun e w' L' h H=>⟨h,H.kept⟩)
 refine VC_seq<|VC_region<|l_allocA zr33 rfl<|fun b4=>vl_v (q_assign rfl) rfl<|vl_nil<|th_n<|VC_seq<|VC_seq<|VC_region<|vl_v (q_move rfl) rfl<|vl_v (q_lenS U22 rfl) rfl<|vl_v (q_gtr_n (q:=32) U3 rfl rfl) rfl ?_
 refine vl_nil<|th_n<|VC_cond rfl (fun ht14=>?_) (fun ht14=>?_)
 ·skip
  have ht14:=of_decide_eq_true ht14
  exfalso;omega
 ·skip
  have ht14:=of_decide_eq_false ht14
  refine VC_skip<|th_n<|VC_seq<|VC_region<|vl_v (q_callV F89 rfl rfl rfl (fun w1 H1=>first_calls w1)) rfl<|l_allocA zr175 rfl<|fun b6=>?_
  refine l_storeA 0 rfl rfl rfl sz175 (by rfl) (by with_reducible first | exact bys_one _ | exact u32s_one _ | exact u64s_one _ | exact i64s_one _ | exact n64s_one _ | assumption) (by simp only [zs,zr,zm,za,zb,zu,zw,zi,zt,zd,zc,zn, *]<;>first | done | omega) ?_
  simp only [List.set_cons_zero,List.set_cons_succ]
  refine vl_nil<|th_n<|VC_seq<|VC_region<|vl_v (q_idxA (m:=0) U175 sz127 rfl rfl (by omega) (r:=_) (by rw [Nat.mul_one,Nat.zero_add])) rfl<|vl_v (q_load 0 U127 rfl rfl rfl (u32s_at (by decide))) rfl<|vl_v (q_move rfl) rfl<|vl_v (q_lenS U22 rfl) rfl<|vl_v (q_conv_nu32 U3 U127 rfl) rfl<|vl_v (q_shl_u32 (m:=8) rfl rfl) rfl<|vl_v (q_xor_u32 (p:=UInt32.ofNat 16842784) rfl rfl) rfl<|vl_v (q_xor_u32 rfl rfl) rfl ?_
  refine vl_v (q_idxA (m:=0) U175 sz127 rfl rfl (by omega) (r:=_) (by rw [Nat.mul_one,Nat.zero_add])) rfl<|l_stU32 0 rfl rfl rfl sz127 (by decide) ?_
  simp only [List.set_cons_zero,List.set_cons_succ]
  rw [show iv.set 0 (iv.getD 0 0 ^^^ (UInt32.ofNat 16842784 ^^^ UInt32.ofNat ((UInt32.ofNat key.length).toNat*2^(min 8 32))))=hKey key.length from rfl]
  refine vl_nil<|th_n<|VC_seq<|VC_region<|vl_v (q_assign rfl) rfl<|vl_nil<|th_n<|VC_seq<|VC_seq<|VC_region<|vl_v (q_move rfl) rfl<|vl_v (q_lenS U22 rfl) rfl ?_
  refine vl_v (q_gtr_n (q:=0) U3 rfl rfl) rfl<|vl_nil<|th_n<|VC_cond rfl (fun ht28=>?_) (fun ht28=>?_)
  ·skip
   have ht28:=of_decide_eq_true ht28
   refine VC_seq<|VC_region<|l_makeZ (m:=64) U22 in5 rfl rfl rfl (by omega) (by unfold maxLen;omega) rfl (repB _)<|fun b29=>vl_v (q_assign rfl) rfl<|vl_nil<|th_n<|VC_region<|vl_v (q_move rfl) rfl<|vl_v (q_move rfl) rfl ?_
   refine l_copy 0 rfl rfl rfl U22 U22 sz5 (Reads.old hA) (by simp only [zs,zr,zm,za,zb,zu,zw,zi,zt,zd,zc,zn, *]<;>first | done | omega) (by with_reducible first | exact bys_one _ | exact u32s_one _ | exact u64s_one _ | exact i64s_one _ | exact n64s_one _ | assumption) (by simp only [zs,zr,zm,za,zb,zu,zw,zi,zt,zd,zc,zn, *]<;>first | done | omega) rfl ?_
   simp only [List.set_cons_zero,List.set_cons_succ]
   rw [cp3 key (by omega)]
   refine vl_nil<|th_n<|VC_seq<|VC_toRow (m:=64) (by rw [bys_length,hpk]) (by unfold maxLen;omega)<|VC_region<|vl_v (q_move rfl) rfl<|vl_v (q_move rfl) rfl<|l_append 0 rfl rfl rfl U22 U22 in5 rfl (by decide) (Reads.old hB) (by simp only [zb,zu,zw,zi,za];omega) (by with_reducible first | exact bys_one _ | exact u32s_one _ | exact u64s_one _ | exact i64s_one _ | exact n64s_one _ | assumption) (by omega) (by omega) rfl<|fun A35 c35 hc35=>?_
   simp only [List.set_cons_zero,List.set_cons_succ,← bys_append,← u32s_append,← u64s_append,← i64s_append,List.nil_append,Nat.zero_add]
   rw [← hal']
   refine vl_v (q_assign rfl) rfl<|vl_nil<|th_n<|VC_seq<|VC_rowBlk (by omega)<|fun bA more eA=>?_
   subst eA
   refine VC_region<|vl_v (q_assign rfl) rfl<|vl_nil<|th_n<|VC_seq<|VC_block<|VC_loop (ι:=Nat) (fun j=>64*j<al.length) (fun j=>[(1,.slice B b.length cb),(4,vP b4 0),(5,.int .i64 0),(6,vP b6 0),(7,.slice (some ⟨bA,64*j,none⟩) (64+b.length-64*j) (c35-64*j)),(8,vU64 (UInt64.ofNat (64*j)))]) (fun j=>[.blk b6 175 (u32s (hs (hKey key.length) al j)),.blk bA 5 (bys al++more),.blk b4 33 (bys (List.replicate 32 0))]) (fun j=>al.length-64*j) 0 (by omega) (kp [1,4,5,6,7,8] rfl) (fun w H=>St.pick H (ks:=[1,0,2]) (by decide) rfl) ?_
   rintro j hp
   have hhl:=(hs_length (hKey key.length) al j).trans (hKey_length key.length)
   refine VC_seq<|VC_seq<|VC_region<|vl_v (q_move rfl) rfl<|vl_v (q_lenS U22 rfl) rfl<|vl_v (q_gtr_n (q:=64) U3 rfl rfl) rfl<|vl_nil<|th_n<|VC_cond rfl (fun ht38=>?_) (fun ht38=>?_)
   ·skip
    have ht38:=of_decide_eq_true ht38
    refine VC_skip<|th_n<|VC_block<|VC_seq<|VC_region<|vl_v (q_move rfl) rfl<|vl_v (q_as (v:=vU64 (UInt64.ofNat (64*(j+1)))) (q_add_u64 (q:=UInt64.ofNat 64) rfl rfl) (by rw [ofNat64_add,show 64*(j+1)=64*j+64 by omega])) rfl<|vl_v (q_assign rfl) rfl<|vl_nil<|th_n<|VC_seq<|VC_region ?_
    refine vl_v (q_move rfl) rfl<|vl_v (q_s2a U179 rfl (by omega)) rfl<|vl_v (q_move rfl) rfl<|l_callE F90 rfl rfl rfl (fun w1 H1=>into_false (hs (hKey key.length) al j) ((al.drop (64*j)).take 64) (UInt64.ofNat (64*(j+1))) b6 bA (64*j) hhl (by rw [List.length_take,List.length_drop];omega) (chunkPart (by omega)) w1 H1) rfl<|vl_nil<|th_n<|VC_region<|vl_v (q_move rfl) rfl<|vl_v (q_slcSb (l:=64) (r:=64*(j+1)) U22 sz5 rfl ⟨_,rfl⟩ rfl rfl (.inl rfl) (by omega) (by omega) (by omega) (by omega) (by omega)) rfl<|vl_v (q_assign rfl) rfl<|vl_nil<|bl_n<|th_n ?_
    refine ⟨j+1,by omega,by omega,(Sub.cons (s:=1) rfl (Sub.cons (s:=4) rfl (Sub.cons (s:=5) rfl (Sub.cons (s:=6) rfl (Sub.cons (s:=7) (by show _=some (Value.slice _ (64+b.length-64*(j+1)) (c35-64*(j+1)));rw [show 64+b.length-64*(j+1)=64+b.length-64*j-64 by omega,show c35-64*(j+1)=c35-64*j-64 by omega];rfl) (Sub.cons (s:=8) rfl (Sub.nil _))))))),fun w H=>H⟩
   ·skip
    have ht38:=of_decide_eq_false ht38
    have hj:j=(al.length-1) / 64:=by omega
    have hdl:(al.drop (64*j)).length=64+b.length-64*j:=by rw [List.length_drop];omega
    have hdl':(bys (al.drop (64*j))).length=64+b.length-64*j:=by rw [bys_length];exact hdl
    refine VC_exit<|(th_x (th_x (bl_xs (th_n ?_))))
    refine VC_seq<|VC_region<|l_allocA zr179 rfl<|fun b9=>vl_nil<|th_n<|VC_seq<|VC_region<|vl_v (q_move rfl) rfl ?_
    refine vl_v (q_slcA U179 sz5 rfl rfl rfl rfl (.inl rfl) (by omega) (by omega) (by omega) (by omega) (by (try simp only [Nat.mul_one,Nat.zero_add,Nat.zero_mul,Nat.mul_zero,Nat.add_zero])<;>rfl)) rfl ?_
    refine vl_v (q_move rfl) rfl ?_
    refine l_copy 0 rfl rfl rfl U22 U22 sz5 (Reads.blkTake 2 (64*j) (al.length-64*j) rfl (restPart (by omega))) (by omega) (by with_reducible first | exact bys_one _ | exact u32s_one _ | exact u64s_one _ | exact i64s_one _ | exact n64s_one _ | assumption) (by simp only [zs,zr,zm,za,zb,zu,zw,zi,zt,zd,zc,zn, *]<;>first | done | omega) rfl ?_
    simp only [List.set_cons_zero,List.set_cons_succ]
    rw [← hdl,cp3 (al.drop (64*j)) (by omega)]
    refine vl_v (q_conv_nu64 U3 U78 rfl) rfl<|vl_v (q_as (v:=vU64 (UInt64.ofNat al.length)) (q_add_u64 rfl rfl) (by rw [ofNat64_add,hdl,show 64*j+min (64+b.length-64*j) 64=al.length by omega])) rfl<|vl_v (q_assign rfl) rfl<|vl_nil<|th_n<|VC_seq<|VC_region<|vl_v (q_move rfl) rfl<|l_callE F90 rfl rfl rfl (fun w1 H1=>into_true (hs (hKey key.length) al j) (padB (al.drop (64*j))) (UInt64.ofNat al.length) b6 b9 0 hhl (padB_length (by omega)) (by rw [List.drop_zero,List.take_of_length_le (by rw [bys_length,padB_length (by omega)];omega)]) w1 (H1.pick (ks:=[1,0,2,3]) (by decide) rfl)) rfl<|vl_nil<|th_n<|VC_seq ?_
    refine VC_region ?_
    rw [show into (hs (hKey key.length) al j) (padB (al.drop (64*j))) (UInt64.ofNat al.length) true=hEnd (hKey key.length) al by rw [hEnd,← hj]]
    have hel:=(hEnd_length (hKey key.length) al).trans (hKey_length key.length)
    refine l_allocA zr33 rfl<|fun b10=>vl_nil<|th_n<|VC_seq<|VC_seq<|VC_region<|vl_v (q_move rfl) rfl<|vl_nil<|th_n<|VC_block<|VC_loop (ι:=Nat) (fun z=>z≤32) (fun z=>[(4,vP b4 0),(6,vP b6 0),(10,vP b10 0),(55,vN z)]) (fun z=>[.blk b10 33 (bys (hOut (hEnd (hKey key.length) al) z)),.blk b6 175 (u32s (hEnd (hKey key.length) al)),.blk b4 33 (bys (List.replicate 32 0))]) (fun z=>32-z) 0 (by omega) (kp [4,6,10,55] rfl) (fun w H=>St.pick H (ks:=[0,1,4]) (by decide) rfl) ?_
    rintro z hp
    have hol:=hOut_length (hEnd (hKey key.length) al) z
    refine VC_seq<|VC_region<|vl_v (q_lss_n (q:=32) U3 rfl rfl) rfl<|vl_nil<|th_n<|VC_seq<|VC_cond rfl (fun ht56=>?_) (fun ht56=>?_)
    ·skip
     have ht56:=of_decide_eq_true ht56
     refine VC_skip<|th_n<|VC_seq<|VC_block<|VC_seq<|VC_region<|vl_v (q_move rfl) rfl<|vl_v (q_assign rfl) rfl<|vl_nil<|th_n<|VC_region<|vl_v (q_move rfl) rfl ?_
     refine vl_v (q_move rfl) rfl<|vl_v (q_quo_n (q:=4) rfl rfl (by omega) (by omega)) rfl<|vl_v (q_idxA U175 sz127 rfl rfl (by omega) (r:=_) (by rw [Nat.mul_one,Nat.zero_add])) rfl<|vl_v (q_load 1 U127 rfl rfl rfl (u32s_at (by omega))) rfl<|vl_v (q_move rfl) rfl<|vl_v (q_rem_n (q:=4) rfl rfl (by omega)) rfl<|vl_v (q_mul_n (q:=8) rfl rfl (by omega)) rfl<|vl_v (q_shr_u32 rfl rfl) rfl<|vl_v (q_conv_nu8 U127 U5 rfl) rfl<|vl_v (q_idxA U33 sz5 rfl rfl (by omega) (r:=_) (by rw [Nat.mul_one,Nat.zero_add])) rfl<|l_stB 0 rfl rfl rfl sz5 (by omega) ?_
     simp only [List.set_cons_zero,List.set_cons_succ]
     refine vl_nil<|bl_n<|th_n<|VC_region<|vl_v (q_add_n (q:=1) rfl rfl (by omega)) rfl<|vl_v (q_move rfl) rfl<|vl_nil<|th_n<|⟨z+1,by omega,by omega,(kp [4,6,10,55] rfl),fun w H=>H⟩
    ·skip
     have ht56:=of_decide_eq_false ht56
     obtain rfl:z=32:=by omega
     rw [show hOut (hEnd (hKey key.length) al) 32=macB key b by rw [macB,← hal]]
     have hml:=macB_length key b
     refine VC_exit<|(th_x (th_x (bl_xs (th_n ?_))))
     refine VC_seq<|VC_region<|vl_v (q_loads 0 U33 rfl rfl rfl sz33 (by simp only [zb,zu,zw,zi,za];omega)) rfl ?_
     refine l_storeA 2 rfl rfl rfl sz33 (by simp only [zb,zu,zw,zi,za];omega) (by with_reducible first | exact bys_one _ | exact u32s_one _ | exact u64s_one _ | exact i64s_one _ | exact n64s_one _ | assumption) (by simp only [zs,zr,zm,za,zb,zu,zw,zi,zt,zd,zc,zn, *]<;>first | done | omega) ?_
     simp only [List.set_cons_zero,List.set_cons_succ]
     refine vl_v (q_assign rfl) rfl<|vl_nil<|th_n<|VC_ret ?_
     refine ⟨_,resC2 2 rfl U33 rfl rfl rfl sz33 (by simp only [zb,zu,zw,zi,za];omega) rfl,?_⟩
     exact rfl
  ·skip
   have ht28:=of_decide_eq_false ht28
   exfalso;omega
end Go.Proofs.YtfpdnpppcoomnaaGreat
namespace Go.PBYtfpdnpppcoomnaaGreat
open Go Go.RowKit
def sprLast (k p:List UInt8):Nat→List UInt8
 | 0=>[]
 | j+1=>macB k (sprLast k p j++p++[UInt8.ofNat (j+1)])
def sprOut (k p:List UInt8):Nat→List UInt8
 | 0=>[]
 | j+1=>sprOut k p j++sprLast k p (j+1)
theorem sprLast_length (k p:List UInt8):∀ j,(sprLast k p j).length=if j=0 then 0 else 32
 | 0=>rfl
 | j+1=>by rw [sprLast,macB_length,if_neg (by omega)]
theorem sprLast_le (k p:List UInt8) (j:Nat):(sprLast k p j).length≤32:=by rw [sprLast_length];split<;>omega
theorem sprOut_length (k p:List UInt8):∀ j,(sprOut k p j).length=32*j
 | 0=>rfl
 | j+1=>by rw [sprOut,List.length_append,sprOut_length,sprLast_length,if_neg (by omega)];omega
def spread (k p:List UInt8) (m:Nat):List UInt8:=(sprOut k p ((m+31) / 32)).take m
theorem spread_length (k p:List UInt8) (m:Nat):(spread k p m).length=m:=by
 rw [spread,List.length_take,sprOut_length];omega
theorem ofNat8_succ (j:Nat):UInt8.ofNat j+1=UInt8.ofNat (j+1):=(UInt8.ofNat_add j 1).symm
end Go.PBYtfpdnpppcoomnaaGreat
namespace Go.Proofs.YtfpdnpppcoomnaaGreat
open Go.RowKit Go.PBYtfpdnpppcoomnaaGreat
theorem draw_calls (k b:List UInt8) (B:Option Addr) (lb cb:Nat) (hk:k.length=32) (hlb:lb=b.length) (hb:b.length≤1000000) (w:World) (hB:SlAt w B (bys b)) (hcb:b.length≤cb) :
 Calls Tryz.prog 25 #[.agg (bys k).toArray,.slice B lb cb] w fun e w'=>e=.returned (.agg (bys (macB k b)).toArray)∧Kept [] w w':=by
 subst hlb
 have hml:=macB_length k b
 refine enter (n:=14) (R:=fun e L=>e=.returned (.agg (bys (macB k b)).toArray)) [.agg (bys k).toArray,.slice B b.length cb] F25 rfl rfl rfl (St.refl w) ?_ (fun e w' L' h H=>⟨h,H.kept⟩)
 refine VC_seq<|VC_region<|l_boxA rfl rfl<|fun b2=>l_allocA zr33 rfl<|fun b4=>vl_nil<|th_n<|VC_seq<|VC_region ?_
 refine vl_v (q_slcA U33 sz5 rfl rfl rfl rfl (.inl rfl) (by omega) (by omega) (by omega) (by omega) (by (try simp only [Nat.mul_one,Nat.zero_add,Nat.zero_mul,Nat.mul_zero,Nat.add_zero])<;>rfl)) rfl ?_
 refine vl_v (q_move rfl) rfl<|vl_v (q_callV F67 rfl rfl rfl (fun w1 H1=>mac_calls k b _ _ 32 cb 32 hk.symm (by omega) (by omega) hb w1 (Reads.blk 1 rfl w1 H1) (Reads.old hB w1 H1) (by omega) hcb)) rfl<|vl_v (q_move rfl) rfl<|vl_v (q_ext rfl rfl) rfl<|vl_v (q_ext rfl rfl) rfl<|l_allocA zr33 rfl<|fun b5=>?_
 refine l_storeA 0 rfl rfl rfl sz33 (by simp only [zb,zu,zw,zi,za];omega) (by with_reducible first | exact bys_one _ | exact u32s_one _ | exact u64s_one _ | exact i64s_one _ | exact n64s_one _ | assumption) (by simp only [zs,zr,zm,za,zb,zu,zw,zi,zt,zd,zc,zn, *]<;>first | done | omega) ?_
 simp only [List.set_cons_zero,List.set_cons_succ]
 refine vl_v (q_assign rfl) rfl<|vl_nil<|th_n<|VC_seq<|VC_region<|vl_v (q_loads 0 U33 rfl rfl rfl sz33 (by simp only [zb,zu,zw,zi,za];omega)) rfl ?_
 refine l_storeA 1 rfl rfl rfl sz33 (by simp only [zb,zu,zw,zi,za];omega) (by with_reducible first | exact bys_one _ | exact u32s_one _ | exact u64s_one _ | exact i64s_one _ | exact n64s_one _ | assumption) (by simp only [zs,zr,zm,za,zb,zu,zw,zi,zt,zd,zc,zn, *]<;>first | done | omega) ?_
 simp only [List.set_cons_zero,List.set_cons_succ]
 refine vl_nil<|th_n<|VC_ret ?_
 refine ⟨_,resC1 1 rfl U33 rfl rfl rfl sz33 (by simp only [zb,zu,zw,zi,za];omega),?_⟩
 exact rfl
def sprEnd (b10 b9 b4 b3 b8:Nat) (k p last out:List UInt8) (nb:UInt8) (b5:Nat) (A8:Option Addr) (l8 c8:Nat):List Res :=
 [.blk b10 5 [vU8 nb],.blk b9 22 [.slice (some ⟨b5,0,none⟩) 32 32],.row 33 1 (.slice (some ⟨b5,0,none⟩) 32 32) 32 (bys last),.blk b4 9 [.string ⟨p.toArray⟩],.blk b3 33 (bys k),.blk b8 22 [.slice A8 l8 c8],.row 5 1 (.slice A8 l8 c8) l8 (bys out)]
theorem spr1_some {S:List Nat} {w0:World} (k p last out mc:List UInt8) (nb:UInt8) (hmc:mc=macB k (last++p++[nb+1])) (b10 b9 b4 b3 b8:Nat) (A9 A8:Option Addr) (l9 l8 c8:Nat) (T9:TypeId) (hk:k.length=32) (hp:0<p.length) (hp2:p.length≤1000) (hl9:l9=last.length) (hla:last.length≤32) (hl8:l8=out.length) (ho:out.length≤3000) (w:World)
 (H:St S w0 [.blk b10 5 [vU8 nb],.blk b9 22 [.slice A9 l9 l9],.row T9 1 (.slice A9 l9 l9) l9 (bys last),.blk b4 9 [.string ⟨p.toArray⟩],.blk b3 33 (bys k),.blk b8 22 [.slice A8 l8 c8],.row 5 1 (.slice A8 l8 c8) l8 (bys out)] w) :
 Calls Tryz.prog 121 #[vP b10 0,vP b9 0,vP b4 0,vP b3 0,vP b8 0] w fun e w'=>e=.returned (.tuple #[])∧∃ b5 A8' c8',St S w0 (sprEnd b10 b9 b4 b3 b8 k p mc (out++mc) (nb+1) b5 A8' (l8+32) c8') w':=by
 subst hl9
 subst hl8
 have hml:mc.length=32:=by rw [hmc];exact macB_length ..
 refine enter (n:=21) (R:=fun e L=>e=.returned (.tuple #[])∧∃ b5 A8' c8',∀ w',St S w0 L w'→St S w0 (sprEnd b10 b9 b4 b3 b8 k p mc (out++mc) (nb+1) b5 A8' (out.length+32) c8') w') [vP b10 0,vP b9 0,vP b4 0,vP b3 0,vP b8 0] F121 rfl rfl rfl H ?_ (fun e w' L' h H=>by obtain ⟨h1,b5,A,c,h2⟩:=h;exact ⟨h1,b5,A,c,h2 w' H⟩)
 refine VC_seq<|VC_region<|vl_v (q_load 0 U5 rfl rfl rfl rfl) rfl<|vl_v (q_add_u8 (q:=UInt8.ofNat 1) rfl rfl) rfl<|l_store1 0 rfl rfl rfl sz5 rfl (by simp;done) ?_
 simp only [List.set_cons_zero,List.set_cons_succ]
 refine vl_nil<|th_n<|VC_seq<|VC_drawM 5 [[],[],[0,1],[],[3],[2,4],[5,0,1,2,3,4]] [[],[],[0,1],[],[3],[0,1,2,3,4],[0,1,2,3,4,5]] rfl (by kernel_rfl)<|qm_v (fun xs hx=>q_load 1 U22 rfl rfl rfl rfl)<|qm_v (fun xs hx=>q_load 3 U9 rfl rfl rfl rfl)<|qm_a (fun xs hx=>q_appendSN 2 rfl rfl rfl U22 U9 in5 rfl (by decide) (by omega) (by omega) hp)<|qm_v (fun xs hx=>q_load 0 U5 rfl rfl rfl rfl)<|qm_a (fun xs hx=>q_litA (cs:=bys [_]) U22 in5 (by decide) rfl rfl rfl rfl (by exact one_all rfl) rfl)<|qm_end<|fun xs hx=>?_
 obtain ⟨⟨A10,c10,e10,hc10,hm10⟩,⟨b12,e12⟩,_⟩:=hx
 simp only [e10]
 simp only [e12]
 simp only [resT,nRow,nBlk,nRowT,tupAt_0,List.append_assoc,List.nil_append,List.append_nil,List.cons_append,List.singleton_append,e10,e12]
 refine VL.keep (kp [0,1,2,3,4,10,12] rfl) ?_
 refine l_append 0 rfl rfl rfl U22 U22 in5 rfl (by decide) (Reads.row 1 rfl) (by simp only [zs,zr,zm,za,zb,zu,zw,zi,zt,zd,zc,zn, *]<;>first | done | omega) (by with_reducible first | exact bys_one _ | exact u32s_one _ | exact u64s_one _ | exact i64s_one _ | exact n64s_one _ | assumption) (by omega) (by omega) rfl ?_
 intro A13 c13 hc13
 simp only [List.set_cons_zero,List.set_cons_succ,← bys_append,← u32s_append,← u64s_append,← i64s_append,List.nil_append,Nat.zero_add]
 refine l_store1 3 rfl rfl rfl sz22 rfl (by simp;done) ?_
 simp only [List.set_cons_zero,List.set_cons_succ]
 refine vl_nil<|qn_n<|th_n<|VC_seq<|VC_region<|vl_v (q_loads 6 U33 rfl rfl rfl sz33 (by simp only [zb,zu,zw,zi,za];omega)) rfl<|vl_v (q_load 3 U22 rfl rfl rfl rfl) rfl ?_
 refine vl_v (q_callV F25 rfl rfl rfl (fun w1 H1=>hmc ▸ draw_calls k (last++p++[nb+1]) _ _ _ hk (by simp<;>omega) (by simp<;>omega) w1 (Reads.row 0 rfl w1 H1) (by simp<;>omega))) rfl ?_
 refine l_allocA zr33 rfl<|fun b5=>?_
 refine l_storeA 0 rfl rfl rfl sz33 (by simp only [zb,zu,zw,zi,za];omega) (by with_reducible first | exact bys_one _ | exact u32s_one _ | exact u64s_one _ | exact i64s_one _ | exact n64s_one _ | assumption) (by simp only [zs,zr,zm,za,zb,zu,zw,zi,zt,zd,zc,zn, *]<;>first | done | omega) ?_
 simp only [List.set_cons_zero,List.set_cons_succ]
 refine vl_nil<|th_n<|VC_seq<|VC_region ?_
 refine vl_v (q_slcA U33 sz5 rfl rfl rfl rfl (.inl rfl) (by omega) (by omega) (by omega) (by omega) (by (try simp only [Nat.mul_one,Nat.zero_add,Nat.zero_mul,Nat.mul_zero,Nat.add_zero])<;>rfl)) rfl ?_
 refine l_store1 4 rfl rfl rfl sz22 rfl (by simp;done) ?_
 simp only [List.set_cons_zero,List.set_cons_succ]
 refine vl_nil<|th_n<|VC_region<|vl_v (q_load 8 U22 rfl rfl rfl rfl) rfl<|vl_v (q_load 4 U22 rfl rfl rfl rfl) rfl<|l_append 9 rfl rfl rfl U22 U22 in5 rfl (by decide) (Reads.blk 0 rfl) (by simp only [zb,zu,zw,zi,za];omega) (by with_reducible first | exact bys_one _ | exact u32s_one _ | exact u64s_one _ | exact i64s_one _ | exact n64s_one _ | assumption) (by omega) (by omega) rfl<|fun A20 c20 hc20=>?_
 simp only [List.set_cons_zero,List.set_cons_succ,← bys_append,← u32s_append,← u64s_append,← i64s_append,List.nil_append,Nat.zero_add]
 refine l_store1 8 rfl rfl rfl sz22 rfl (by simp;done) ?_
 simp only [List.set_cons_zero,List.set_cons_succ]
 refine vl_nil<|⟨_,res0 rfl,?_⟩
 exact ⟨rfl,b5,A20,c20,fun w' H=>St.pick (H.toRow (k:=0) (size:=1) (n:=32) rfl (by rw [bys_length,hml]) (by unfold maxLen;omega)) (ks:=[3,4,0,6,7,8,9]) (by decide) rfl⟩
theorem spr1_none {S:List Nat} {w0:World} (k p last out mc:List UInt8) (nb:UInt8) (hmc:mc=macB k (last++p++[nb+1])) (b10 b9 b4 b3 b8:Nat) (A9 A8:Option Addr) (l9 l8 c8:Nat) (T9:TypeId) (hk:k.length=32) (hp:p=[]) (hl9:l9=last.length) (hla:last.length≤32) (hl8:l8=out.length) (ho:out.length≤3000) (w:World)
 (H:St S w0 [.blk b10 5 [vU8 nb],.blk b9 22 [.slice A9 l9 l9],.row T9 1 (.slice A9 l9 l9) l9 (bys last),.blk b4 9 [.string ⟨p.toArray⟩],.blk b3 33 (bys k),.blk b8 22 [.slice A8 l8 c8],.row 5 1 (.slice A8 l8 c8) l8 (bys out)] w) :
 Calls Tryz.prog 121 #[vP b10 0,vP b9 0,vP b4 0,vP b3 0,vP b8 0] w fun e w'=>e=.returned (.tuple #[])∧∃ b5 A8' c8',St S w0 (sprEnd b10 b9 b4 b3 b8 k p mc (out++mc) (nb+1) b5 A8' (l8+32) c8') w':=by
 subst hp
 subst hl9
 rw [List.append_nil] at hmc
 subst hl8
 have hml:mc.length=32:=by rw [hmc];exact macB_length ..
 refine enter (n:=21) (R:=fun e L=>e=.returned (.tuple #[])∧∃ b5 A8' c8',∀ w',St S w0 L w'→St S w0 (sprEnd b10 b9 b4 b3 b8 k [] mc (out++mc) (nb+1) b5 A8' (out.length+32) c8') w') [vP b10 0,vP b9 0,vP b4 0,vP b3 0,vP b8 0] F121 rfl rfl rfl H ?_ (fun e w' L' h H=>by obtain ⟨h1,b5,A,c,h2⟩:=h;exact ⟨h1,b5,A,c,h2 w' H⟩)
 refine VC_seq<|VC_region<|vl_v (q_load 0 U5 rfl rfl rfl rfl) rfl<|vl_v (q_add_u8 (q:=UInt8.ofNat 1) rfl rfl) rfl<|l_store1 0 rfl rfl rfl sz5 rfl (by simp;done) ?_
 simp only [List.set_cons_zero,List.set_cons_succ]
 refine vl_nil<|th_n<|VC_seq<|VC_drawM 5 [[],[],[0,1],[],[3],[2,4],[5,0,1,2,3,4]] [[],[],[0,1],[],[3],[0,1,2,3,4],[0,1,2,3,4,5]] rfl (by kernel_rfl)<|qm_v (fun xs hx=>q_load 1 U22 rfl rfl rfl rfl)<|qm_v (fun xs hx=>q_load 3 U9 rfl rfl rfl rfl)<|qm_v (fun xs hx=>q_appendS0 2 rfl rfl rfl U22 U9 in5 (by omega))<|qm_v (fun xs hx=>q_load 0 U5 rfl rfl rfl rfl)<|qm_a (fun xs hx=>q_litA (cs:=bys [_]) U22 in5 (by decide) rfl rfl rfl rfl (by exact one_all rfl) rfl)<|qm_end<|fun xs hx=>?_
 obtain ⟨⟨b12,e12⟩,_⟩:=hx
 simp only [e12]
 simp only [resT,nRow,nBlk,nRowT,tupAt_0,List.append_assoc,List.nil_append,List.append_nil,List.cons_append,List.singleton_append,e12]
 refine VL.keep (kp [0,1,2,3,4,10,12] rfl) ?_
 refine l_appendT 3 rfl rfl rfl U22 U22 in5 rfl (by decide) (Reads.row 0 rfl) (by simp only [zs,zr,zm,za,zb,zu,zw,zi,zt,zd,zc,zn, *]<;>first | done | omega) (by with_reducible first | exact bys_one _ | exact u32s_one _ | exact u64s_one _ | exact i64s_one _ | exact n64s_one _ | assumption) (by omega) (by omega) rfl ?_
 intro A13 c13 T13 hc13 hm13
 simp only [List.set_cons_zero,List.set_cons_succ,← bys_append,← u32s_append,← u64s_append,← i64s_append,List.nil_append,Nat.zero_add]
 refine l_store1 2 rfl rfl rfl sz22 rfl (by simp;done) ?_
 simp only [List.set_cons_zero,List.set_cons_succ]
 refine vl_nil<|qn_n<|th_n<|VC_seq<|VC_region<|vl_v (q_loads 5 U33 rfl rfl rfl sz33 (by simp only [zb,zu,zw,zi,za];omega)) rfl<|vl_v (q_load 2 U22 rfl rfl rfl rfl) rfl ?_
 refine vl_v (q_callV F25 rfl rfl rfl (fun w1 H1=>hmc ▸ draw_calls k (last++[nb+1]) _ _ _ hk (by simp<;>omega) (by simp<;>omega) w1 (Reads.row 3 rfl w1 H1) (by simp<;>omega))) rfl ?_
 refine l_allocA zr33 rfl<|fun b5=>?_
 refine l_storeA 0 rfl rfl rfl sz33 (by simp only [zb,zu,zw,zi,za];omega) (by with_reducible first | exact bys_one _ | exact u32s_one _ | exact u64s_one _ | exact i64s_one _ | exact n64s_one _ | assumption) (by simp only [zs,zr,zm,za,zb,zu,zw,zi,zt,zd,zc,zn, *]<;>first | done | omega) ?_
 simp only [List.set_cons_zero,List.set_cons_succ]
 refine vl_nil<|th_n<|VC_seq<|VC_region ?_
 refine vl_v (q_slcA U33 sz5 rfl rfl rfl rfl (.inl rfl) (by omega) (by omega) (by omega) (by omega) (by (try simp only [Nat.mul_one,Nat.zero_add,Nat.zero_mul,Nat.mul_zero,Nat.add_zero])<;>rfl)) rfl ?_
 refine l_store1 3 rfl rfl rfl sz22 rfl (by simp;done) ?_
 simp only [List.set_cons_zero,List.set_cons_succ]
 refine vl_nil<|th_n<|VC_region<|vl_v (q_load 7 U22 rfl rfl rfl rfl) rfl<|vl_v (q_load 3 U22 rfl rfl rfl rfl) rfl<|l_append 8 rfl rfl rfl U22 U22 in5 rfl (by decide) (Reads.blk 0 rfl) (by simp only [zb,zu,zw,zi,za];omega) (by with_reducible first | exact bys_one _ | exact u32s_one _ | exact u64s_one _ | exact i64s_one _ | exact n64s_one _ | assumption) (by omega) (by omega) rfl<|fun A20 c20 hc20=>?_
 simp only [List.set_cons_zero,List.set_cons_succ,← bys_append,← u32s_append,← u64s_append,← i64s_append,List.nil_append,Nat.zero_add]
 refine l_store1 7 rfl rfl rfl sz22 rfl (by simp;done) ?_
 simp only [List.set_cons_zero,List.set_cons_succ]
 refine vl_nil<|⟨_,res0 rfl,?_⟩
 exact ⟨rfl,b5,A20,c20,fun w' H=>St.pick (H.toRow (k:=0) (size:=1) (n:=32) rfl (by rw [bys_length,hml]) (by unfold maxLen;omega)) (ks:=[2,3,0,5,6,7,8]) (by decide) rfl⟩
theorem spr1_calls {S:List Nat} {w0:World} (k p last out mc:List UInt8) (nb:UInt8) (hmc:mc=macB k (last++p++[nb+1])) (b10 b9 b4 b3 b8:Nat) (A9 A8:Option Addr) (l9 l8 c8:Nat) (T9:TypeId) (hk:k.length=32) (hp2:p.length≤1000) (hl9:l9=last.length) (hla:last.length≤32) (hl8:l8=out.length) (ho:out.length≤3000) (w:World)
 (H:St S w0 [.blk b10 5 [vU8 nb],.blk b9 22 [.slice A9 l9 l9],.row T9 1 (.slice A9 l9 l9) l9 (bys last),.blk b4 9 [.string ⟨p.toArray⟩],.blk b3 33 (bys k),.blk b8 22 [.slice A8 l8 c8],.row 5 1 (.slice A8 l8 c8) l8 (bys out)] w) :
 Calls Tryz.prog 121 #[vP b10 0,vP b9 0,vP b4 0,vP b3 0,vP b8 0] w fun e w'=>e=.returned (.tuple #[])∧∃ b5 A8' c8',St S w0 (sprEnd b10 b9 b4 b3 b8 k p mc (out++mc) (nb+1) b5 A8' (l8+32) c8') w':=by
 by_cases hp:p=[]
 ·exact spr1_none k p last out mc nb hmc b10 b9 b4 b3 b8 A9 A8 l9 l8 c8 T9 hk hp hl9 hla hl8 ho w H
 ·exact spr1_some k p last out mc nb hmc b10 b9 b4 b3 b8 A9 A8 l9 l8 c8 T9 hk (List.length_pos_iff.2 hp) hp2 hl9 hla hl8 ho w H
def sprSt (b10 b9 b4 b3 b8:Nat) (k p:List UInt8) (x:Nat × Option Addr × Option Addr × Nat × TypeId):List Res :=
 [.blk b10 5 [vU8 (UInt8.ofNat x.1)],.blk b9 22 [.slice x.2.1 (sprLast k p x.1).length (sprLast k p x.1).length],.row x.2.2.2.2 1 (.slice x.2.1 (sprLast k p x.1).length (sprLast k p x.1).length) (sprLast k p x.1).length (bys (sprLast k p x.1)),.blk b4 9 [.string ⟨p.toArray⟩],.blk b3 33 (bys k),.blk b8 22 [.slice x.2.2.1 (32*x.1) x.2.2.2.1],.row 5 1 (.slice x.2.2.1 (32*x.1) x.2.2.2.1) (32*x.1) (bys (sprOut k p x.1))]
theorem spr_next (b10 b9 b4 b3 b8:Nat) (k p:List UInt8) (j b5:Nat) (A:Option Addr) (c:Nat) :
 sprEnd b10 b9 b4 b3 b8 k p (sprLast k p (j+1)) (sprOut k p j++sprLast k p (j+1)) (UInt8.ofNat j+1) b5 A (32*j+32) c=sprSt b10 b9 b4 b3 b8 k p (j+1,some ⟨b5,0,none⟩,A,c,33):=by
 unfold sprEnd sprSt
 have h:(sprLast k p (j+1)).length=32:=by rw [sprLast_length,if_neg (by omega)]
 simp only [h,ofNat8_succ,show 32*(j+1)=32*j+32 from by omega]
 rfl
theorem spread_calls (k p:List UInt8) (m:Nat) (hk:k.length=32) (hp:p.length≤1000) (hm:m≤2000) (w:World) :
 Calls Tryz.prog 114 #[.agg (bys k).toArray,.string ⟨p.toArray⟩,vN m] w fun e w'=>∃ A c,e=.returned (.tuple #[.slice A m m,.int .i64 0])∧St [] w [.row 5 1 (.slice A (32*((m+31) / 32)) c) (32*((m+31) / 32)) (bys (sprOut k p ((m+31) / 32)))] w':=by
 refine enter (n:=29) (R:=fun e L=>∃ A c,e=.returned (.tuple #[.slice A m m,.int .i64 0])∧∀ w',St [] w L w'→St [] w [.row 5 1 (.slice A (32*((m+31) / 32)) c) (32*((m+31) / 32)) (bys (sprOut k p ((m+31) / 32)))] w') [.agg (bys k).toArray,.string ⟨p.toArray⟩,vN m] F114 rfl rfl rfl (St.refl w) ?_ (fun e w' L' h H=>by obtain ⟨A,c,h1,h2⟩:=h;exact ⟨A,c,h1,h2 w' H⟩)
 refine VC_seq<|VC_region<|l_boxA rfl rfl<|fun b3=>l_box1 rfl rfl rfl<|fun b4=>vl_v (q_assign rfl) rfl<|vl_v (q_assign rfl) rfl<|vl_nil<|th_n<|VC_seq<|VC_seq<|VC_region<|vl_v (q_move rfl) rfl ?_
 refine vl_v (q_as (v:=.bool false) (q_lss_n (q:=0) U3 rfl rfl) (by simp)) rfl<|vl_v (q_move rfl) rfl<|vl_vg rfl (q_move rfl) rfl ?_
 refine vl_vg rfl (q_as (v:=.bool false) (q_gtr_n (q:=2000) U3 rfl rfl) (by simp<;>omega)) rfl ?_
 refine vl_v (q_pickF rfl rfl) rfl<|vl_nil<|th_n<|VC_no (rfl)<|VC_skip<|th_n<|VC_seq<|VC_region<|l_alloc1 zr22 rfl rfl<|fun b8=>l_alloc1 zr22 rfl rfl<|fun b9=>vl_nil<|th_n ?_
 refine VC_seq<|VC_region<|l_alloc1 zr5 rfl rfl<|fun b10=>l_store1 0 rfl rfl rfl sz5 rfl (by decide) ?_
 simp only [List.set_cons_zero,List.set_cons_succ]
 refine vl_nil<|th_n<|VC_seq<|VC_nilRow 5 1<|VC_nilRow 5 1<|VC_region<|vl_v (q_makeFunc rfl) rfl<|vl_v (q_assign rfl) rfl<|vl_nil<|th_n<|VC_seq<|VC_block ?_
 refine VC_loop (ι:=Nat × Option Addr × Option Addr × Nat × TypeId) (fun x=>32*x.1<m+32∧32*x.1≤x.2.2.2.1) (fun x=>[(2,vN m),(8,vP b8 0),(11,.func (.func 121) #[] #[vP b10 0,vP b9 0,vP b4 0,vP b3 0,vP b8 0])]) (fun x=>sprSt b10 b9 b4 b3 b8 k p x) (fun x=>m+32-32*x.1) (0,none,none,0,5) (⟨by show 32*0<m+32;omega,by show 32*0≤0;omega⟩) (kp [2,8,11] rfl) (fun w H=>St.pick H (ks:=[2,3,1,5,6,4,0]) (by decide) rfl) ?_
 rintro ⟨j,A9,A8,c8,T9⟩ hp
 obtain ⟨hp1,hp2⟩:=hp
 have hp1:32*j<m+32:=hp1
 have hp2:32*j≤c8:=hp2
 have hll:=sprLast_le k p j
 have hol:=sprOut_length k p j
 refine VC_seq<|VC_seq<|VC_region<|vl_v (q_load 5 U22 rfl rfl rfl rfl) rfl<|vl_v (q_as (v:=vN (32*j)) (q_lenS U22 rfl) rfl) rfl<|vl_v (q_move rfl) rfl<|vl_v (q_lss_n U3 rfl rfl) rfl<|vl_nil<|th_n<|VC_cond rfl (fun ht22=>?_) (fun ht22=>?_)
 ·skip
  have ht22:=of_decide_eq_true ht22
  refine VC_skip<|th_n<|VC_block<|VC_region<|vl_v (q_move rfl) rfl ?_
  refine l_clo (F:=fun v L'=>v=.tuple #[]∧∃ b5 A c,32*(j+1)≤c∧L'=sprEnd b10 b9 b4 b3 b8 k p (sprLast k p (j+1)) (sprOut k p j++sprLast k p (j+1)) (UInt8.ofNat j+1) b5 A (32*j+32) c) rfl F121 rfl rfl rfl (fun w1 H1=>(spr1_calls k p (sprLast k p j) (sprOut k p j) (sprLast k p (j+1)) (UInt8.ofNat j) (by rw [ofNat8_succ];rfl) b10 b9 b4 b3 b8 A9 A8 _ _ c8 T9 hk hp rfl hll hol.symm (by omega) w1 H1).mono fun e w' h=>by obtain ⟨h1,b5,A,c,h2⟩:=h;exact ⟨_,_,h1,⟨rfl,b5,A,c,by have hr:Res.ok w' (.row 5 1 (.slice A (32*j+32) c) (32*j+32) _):=h2.get (k:=6) rfl;obtain ⟨_,c',e',hc',_⟩:=Row.slice hr;cases e';omega,rfl⟩,h2⟩) rfl ?_
  rintro v L' ⟨rfl,b5,A8',c8',hc8',rfl⟩
  refine vl_nil<|bl_n<|th_n ?_
  refine ⟨(j+1,some ⟨b5,0,none⟩,A8',c8',33),⟨by show 32*(j+1)<m+32;omega,hc8'⟩,by show m+32-32*(j+1)<m+32-32*j;omega,(kp [2,8,11] rfl),fun w' H'=>spr_next b10 b9 b4 b3 b8 k p j b5 A8' c8' ▸ H'⟩
 ·skip
  have ht22:=of_decide_eq_false ht22
  obtain rfl:j=(m+31) / 32:=by omega
  refine VC_exit<|(th_x (th_x (bl_xs (th_n ?_))))
  refine VC_seq<|VC_region<|vl_v (q_load 5 U22 rfl rfl rfl rfl) rfl<|vl_v (q_move rfl) rfl<|vl_v (q_move rfl) rfl<|vl_v (q_slcS0 U22 sz5 rfl ⟨_,rfl⟩ ⟨_,rfl⟩ (.inr rfl) (by omega) (by omega)) rfl<|vl_v (q_assign rfl) rfl<|vl_v (q_assign rfl) rfl<|vl_nil<|th_n<|VC_ret<|⟨_,res2 rfl rfl rfl,?_⟩
  exact ⟨A8,c8,rfl,fun w' H'=>St.pick H' (ks:=[6]) (by decide) rfl⟩
end Go.Proofs.YtfpdnpppcoomnaaGreat

