/- Words and laws that the proofs of this seat share, part 8 of 10. No condition. -/
import Derived.Test.YtfpdnpppcoomnaaGreatQ40tg
set_option linter.unusedVariables false
set_option linter.unusedSimpArgs false
set_option linter.defProp false
set_option maxRecDepth 100000
set_option maxHeartbeats 16000000
namespace Go.Proofs.YtfpdnpppcoomnaaGreat
open Go.RowKit Go.PBYtfpdnpppcoomnaaGreat
theorem splice_fst (xs ys vs:List Value) (h:vs.length=xs.length):splice (xs++ys) 0 vs=vs++ys:=by
 unfold splice
 simp [h]
theorem splice_all (xs vs:List Value) (h:vs.length=xs.length):splice xs 0 vs=vs:=by
 unfold splice
 simp [h]
theorem set_fst (xs:List Value) (a b v:Value) (j:Nat) (h:xs.length=j):(xs++[a,b]).set j v=xs++[v,b]:=by
 rw [List.set_append_right _ _ (by omega)]
 simp [h]
theorem set_snd (xs:List Value) (a b v:Value) (j:Nat) (h:xs.length+1=j):(xs++[a,b]).set j v=xs++[a,v]:=by
 rw [List.set_append_right _ _ (by omega)]
 subst h
 simp
theorem head_ok {w0:World} {L:List Res} (b:Nat) (l p:List UInt8) (A:Option Addr) (m c x y:Nat) (hm:m=l.length) (hc:m≤c) (hn:40≤m) (hA:SlAt w0 A (bys l)) (hp:rdP l=p) (hx:rdM l=x) (hy:rdN l=y) (w:World) (H:St [] w0 (.blk b 93 [.slice A m c]::L) w) :
 Calls Tryz.prog 37 #[vP b 0] w fun e w'=>e=.returned (.agg (headC p x y).toArray)∧St [] w0 (.blk b 93 [.slice (adv (adv (adv A 32 c 1) 4 (c-32) 1) 4 (c-32-4) 1) (m-32-4-4) (c-32-4-4)]::L) w':=by
 have hl:(bys p).length=32:=by rw [← hp,rdP];simp [bys];omega
 have hp':l.take 32=p:=hp
 have A1:=adv_at (n:=32) hA hm hc
 have A2:=adv_at (m:=m-32) (c:=c-32) (n:=4) A1 (by simp;omega) (by omega)
 have hx':ofHigh ((l.drop 32).take 4)=x:=hx
 have hy':ofHigh (((l.drop 32).drop 4).take 4)=y:=by rw [List.drop_drop];exact hy
 have hz:(bys (List.replicate 32 0)).length=32:=by simp [bys]
 refine enter (n:=13) (R:=fun e M=>e=.returned (.agg (headC p x y).toArray)∧∃ z,M=z::.blk b 93 [.slice (adv (adv (adv A 32 c 1) 4 (c-32) 1) 4 (c-32-4) 1) (m-32-4-4) (c-32-4-4)]::L) [vP b 0] F37 rfl rfl rfl H ?_ (fun e w' L' h H=>⟨h.1,by obtain ⟨_,x,rfl⟩:=h;exact H.sub (List.sublist_cons_self _ _)⟩)
 refine VC_seq<|VC_region<|l_allocA zr35 rfl<|fun b2=>vl_nil<|th_n<|VC_seq ?_
 rw [show bys (List.replicate 32 0)++[Value.int .i64 0]++[Value.int .i64 0]=bys (List.replicate 32 0)++[vI 0,vI 0] by rw [List.append_assoc];rfl]
 refine VC_region<|vl_v (q_move rfl) rfl<|l_callE F36 rfl rfl rfl (fun w1 H1=>(key_ok b l A m c hm hc (by omega) hA w1 (H1.perm (List.Perm.swap _ _ _))).mono fun e w' h=>⟨h.1,h.2.perm (List.Perm.swap _ _ _)⟩) rfl ?_
 rw [hp']
 refine vl_v (q_fldA fo35_0 (by decide) rfl rfl) rfl<|l_storeG 0 rfl rfl rfl sz33 (by omega) (by with_reducible first | exact bys_one _ | exact u32s_one _ | exact u64s_one _ | exact i64s_one _ | exact n64s_one _ | assumption) (by simp only [List.length_append,hl,hz,List.length_cons,List.length_nil];omega) ?_
 simp only [List.set_cons_zero,List.set_cons_succ]
 refine vl_nil<|th_n<|VC_seq ?_
 rw [splice_fst _ _ _ (by rw [hl,hz])]
 refine VC_region<|vl_v (q_move rfl) rfl ?_
 refine l_callE F35 rfl rfl rfl (fun w1 H1=>(number_ok b (l.drop 32) (adv A 32 c 1) (m-32) (c-32) 4 x (by simp;omega) (by omega) (by omega) (by omega) A1 hx' w1 (H1.perm (List.Perm.swap _ _ _))).mono fun e w' h=>⟨h.1,h.2.perm (List.Perm.swap _ _ _)⟩) rfl ?_
 refine vl_v (q_fldA fo35_1 (by decide) rfl rfl) rfl<|l_store1 0 rfl rfl rfl sz3 rfl (by simp only [List.length_append,hl,hz,List.length_cons,List.length_nil];omega) ?_
 simp only [List.set_cons_zero,List.set_cons_succ]
 refine vl_nil<|th_n<|VC_seq ?_
 rw [set_fst _ _ _ _ _ hl]
 refine VC_region<|vl_v (q_move rfl) rfl ?_
 refine l_callE F35 rfl rfl rfl (fun w1 H1=>(number_ok b ((l.drop 32).drop 4) (adv (adv A 32 c 1) 4 (c-32) 1) (m-32-4) (c-32-4) 4 y (by simp;omega) (by omega) (by omega) (by omega) A2 hy' w1 (H1.perm (List.Perm.swap _ _ _))).mono fun e w' h=>⟨h.1,h.2.perm (List.Perm.swap _ _ _)⟩) rfl ?_
 refine vl_v (q_fldA fo35_2 (by decide) rfl rfl) rfl<|l_store1 0 rfl rfl rfl sz3 rfl (by simp only [List.length_append,hl,hz,List.length_cons,List.length_nil];omega) ?_
 simp only [List.set_cons_zero,List.set_cons_succ]
 refine vl_nil<|th_n<|VC_seq ?_
 rw [set_snd _ _ _ _ _ (by rw [hl])]
 refine VC_region<|vl_v (q_loads 0 U35 rfl rfl rfl sz35 (by simp only [List.length_append,hl,hz,List.length_cons,List.length_nil];done)) rfl ?_
 refine l_storeA 0 rfl rfl rfl sz35 (by simp only [List.length_append,hl,hz,List.length_cons,List.length_nil];done) (by refine app_one ?_ ?_<;>first | exact bys_one _ | exact one_all rfl | (simp;done)) (by simp only [List.length_append,hl,hz,List.length_cons,List.length_nil];done) ?_
 simp only [List.set_cons_zero,List.set_cons_succ]
 refine vl_nil<|th_n<|VC_ret ?_
 refine ⟨_,resC1 0 rfl U35 rfl rfl rfl sz35 (by simp only [List.length_append,hl,hz,List.length_cons,List.length_nil];done),?_⟩
 exact ⟨rfl,_,rfl⟩
theorem head_bad0 {w0:World} {L:List Res} (b:Nat) (l:List UInt8) (A:Option Addr) (m c:Nat) (hm:m=l.length) (hc:m≤c) (hn:m<32) (hA:SlAt w0 A (bys l)) (w:World) (H:St [] w0 (.blk b 93 [.slice A m c]::L) w) :
 Calls Tryz.prog 37 #[vP b 0] w fun e w'=>e=.panicked (chOf 3)∧∃ v,St [] w0 (.blk b 93 [v]::L) w':=by
 have hz:(bys (List.replicate 32 0)).length=32:=by simp [bys]
 refine enter (n:=13) (R:=fun e M=>e=.panicked (chOf 3)∧∃ z v,M=z::.blk b 93 [v]::L) [vP b 0] F37 rfl rfl rfl H ?_ (fun e w' L' h H=>⟨h.1,by obtain ⟨_,x,v,rfl⟩:=h;exact ⟨v,H.sub (List.sublist_cons_self _ _)⟩⟩)
 refine VC_seq<|VC_region<|l_allocA zr35 rfl<|fun b2=>vl_nil<|th_n<|VC_seq<|VC_region<|vl_v (q_move rfl) rfl<|l_callX F36 rfl rfl rfl (fun w1 H1=>(key_bad b A m c hn w1 (H1.perm (List.Perm.swap _ _ _))).mono fun e w' h=>⟨h.1,h.2.perm (List.Perm.swap _ _ _)⟩) ?_
 exact th_p<|⟨rfl,_,_,rfl⟩
theorem head_bad1 {w0:World} {L:List Res} (b:Nat) (l:List UInt8) (A:Option Addr) (m c:Nat) (hm:m=l.length) (hc:m≤c) (h1:32≤m) (hn:m<36) (hA:SlAt w0 A (bys l)) (w:World) (H:St [] w0 (.blk b 93 [.slice A m c]::L) w) :
 Calls Tryz.prog 37 #[vP b 0] w fun e w'=>e=.panicked (chOf 3)∧∃ v,St [] w0 (.blk b 93 [v]::L) w':=by
 have hl:(bys (l.take 32)).length=32:=by simp [bys];omega
 have A1:=adv_at (n:=32) hA hm hc
 have hz:(bys (List.replicate 32 0)).length=32:=by simp [bys]
 refine enter (n:=13) (R:=fun e M=>e=.panicked (chOf 3)∧∃ z v,M=z::.blk b 93 [v]::L) [vP b 0] F37 rfl rfl rfl H ?_ (fun e w' L' h H=>⟨h.1,by obtain ⟨_,x,v,rfl⟩:=h;exact ⟨v,H.sub (List.sublist_cons_self _ _)⟩⟩)
 refine VC_seq<|VC_region<|l_allocA zr35 rfl<|fun b2=>vl_nil<|th_n<|VC_seq ?_
 rw [show bys (List.replicate 32 0)++[Value.int .i64 0]++[Value.int .i64 0]=bys (List.replicate 32 0)++[vI 0,vI 0] by rw [List.append_assoc];rfl]
 refine VC_region<|vl_v (q_move rfl) rfl<|l_callE F36 rfl rfl rfl (fun w1 H1=>(key_ok b l A m c hm hc (by omega) hA w1 (H1.perm (List.Perm.swap _ _ _))).mono fun e w' h=>⟨h.1,h.2.perm (List.Perm.swap _ _ _)⟩) rfl ?_
 refine vl_v (q_fldA fo35_0 (by decide) rfl rfl) rfl<|l_storeG 0 rfl rfl rfl sz33 (by omega) (by with_reducible first | exact bys_one _ | exact u32s_one _ | exact u64s_one _ | exact i64s_one _ | exact n64s_one _ | assumption) (by simp only [List.length_append,hl,hz,List.length_cons,List.length_nil];omega) ?_
 simp only [List.set_cons_zero,List.set_cons_succ]
 refine vl_nil<|th_n<|VC_seq ?_
 rw [splice_fst _ _ _ (by rw [hl,hz])]
 refine VC_region<|vl_v (q_move rfl) rfl<|l_callX F35 rfl rfl rfl (fun w1 H1=>(number_bad b (adv A 32 c 1) (m-32) (c-32) 4 (by omega) w1 (H1.perm (List.Perm.swap _ _ _))).mono fun e w' h=>⟨h.1,h.2.perm (List.Perm.swap _ _ _)⟩) ?_
 exact th_p<|⟨rfl,_,_,rfl⟩
theorem head_bad2 {w0:World} {L:List Res} (b:Nat) (l:List UInt8) (A:Option Addr) (m c:Nat) (hm:m=l.length) (hc:m≤c) (h1:36≤m) (hn:m<40) (hA:SlAt w0 A (bys l)) (w:World) (H:St [] w0 (.blk b 93 [.slice A m c]::L) w) :
 Calls Tryz.prog 37 #[vP b 0] w fun e w'=>e=.panicked (chOf 3)∧∃ v,St [] w0 (.blk b 93 [v]::L) w':=by
 have hl:(bys (l.take 32)).length=32:=by simp [bys];omega
 have A1:=adv_at (n:=32) hA hm hc
 obtain ⟨x,hx⟩:∃ x,ofHigh ((l.drop 32).take 4)=x:=⟨_,rfl⟩
 have hz:(bys (List.replicate 32 0)).length=32:=by simp [bys]
 refine enter (n:=13) (R:=fun e M=>e=.panicked (chOf 3)∧∃ z v,M=z::.blk b 93 [v]::L) [vP b 0] F37 rfl rfl rfl H ?_ (fun e w' L' h H=>⟨h.1,by obtain ⟨_,x,v,rfl⟩:=h;exact ⟨v,H.sub (List.sublist_cons_self _ _)⟩⟩)
 refine VC_seq<|VC_region<|l_allocA zr35 rfl<|fun b2=>vl_nil<|th_n<|VC_seq ?_
 rw [show bys (List.replicate 32 0)++[Value.int .i64 0]++[Value.int .i64 0]=bys (List.replicate 32 0)++[vI 0,vI 0] by rw [List.append_assoc];rfl]
 refine VC_region<|vl_v (q_move rfl) rfl<|l_callE F36 rfl rfl rfl (fun w1 H1=>(key_ok b l A m c hm hc (by omega) hA w1 (H1.perm (List.Perm.swap _ _ _))).mono fun e w' h=>⟨h.1,h.2.perm (List.Perm.swap _ _ _)⟩) rfl ?_
 refine vl_v (q_fldA fo35_0 (by decide) rfl rfl) rfl<|l_storeG 0 rfl rfl rfl sz33 (by omega) (by with_reducible first | exact bys_one _ | exact u32s_one _ | exact u64s_one _ | exact i64s_one _ | exact n64s_one _ | assumption) (by simp only [List.length_append,hl,hz,List.length_cons,List.length_nil];omega) ?_
 simp only [List.set_cons_zero,List.set_cons_succ]
 refine vl_nil<|th_n<|VC_seq ?_
 rw [splice_fst _ _ _ (by rw [hl,hz])]
 refine VC_region<|vl_v (q_move rfl) rfl ?_
 refine l_callE F35 rfl rfl rfl (fun w1 H1=>(number_ok b (l.drop 32) (adv A 32 c 1) (m-32) (c-32) 4 x (by simp;omega) (by omega) (by omega) (by omega) A1 hx w1 (H1.perm (List.Perm.swap _ _ _))).mono fun e w' h=>⟨h.1,h.2.perm (List.Perm.swap _ _ _)⟩) rfl ?_
 refine vl_v (q_fldA fo35_1 (by decide) rfl rfl) rfl<|l_store1 0 rfl rfl rfl sz3 rfl (by simp only [List.length_append,hl,hz,List.length_cons,List.length_nil];omega) ?_
 simp only [List.set_cons_zero,List.set_cons_succ]
 refine vl_nil<|th_n<|VC_seq<|VC_region<|vl_v (q_move rfl) rfl<|l_callX F35 rfl rfl rfl (fun w1 H1=>(number_bad b (adv (adv A 32 c 1) 4 (c-32) 1) (m-32-4) (c-32-4) 4 (by omega) w1 (H1.perm (List.Perm.swap _ _ _))).mono fun e w' h=>⟨h.1,h.2.perm (List.Perm.swap _ _ _)⟩) ?_
 exact th_p<|⟨rfl,_,_,rfl⟩
theorem head_bad {w0:World} {L:List Res} (b:Nat) (l:List UInt8) (A:Option Addr) (m c:Nat) (hm:m=l.length) (hc:m≤c) (hn:m<40) (hA:SlAt w0 A (bys l)) (w:World) (H:St [] w0 (.blk b 93 [.slice A m c]::L) w) :
 Calls Tryz.prog 37 #[vP b 0] w fun e w'=>e=.panicked (chOf 3)∧∃ v,St [] w0 (.blk b 93 [v]::L) w':=by
 by_cases h1:m<32
 ·exact head_bad0 b l A m c hm hc h1 hA w H
 by_cases h2:m<36
 ·exact head_bad1 b l A m c hm hc (by omega) h2 hA w H
 ·exact head_bad2 b l A m c hm hc (by omega) hn hA w H
theorem must_ok {w0:World} {L:List Res} (b:Nat) (A:Option Addr) (m c:Nat) (hm:m=0) (w:World) (H:St [] w0 (.blk b 93 [.slice A m c]::L) w) :
 Calls Tryz.prog 39 #[vP b 0,.bool true] w fun e w'=>e=.returned (.tuple #[])∧St [] w0 (.blk b 93 [.slice A m c]::L) w':=by
 refine enter (n:=15) (R:=fun e M=>e=.returned (.tuple #[])∧M=.blk b 93 [.slice A m c]::L) [vP b 0,.bool true] F39 rfl rfl rfl H ?_ (fun e w' L' h H=>⟨h.1,h.2 ▸ H⟩)
 refine VC_seq<|VC_region<|vl_v (q_move rfl) rfl<|vl_v (q_not rfl) rfl<|vl_v (q_move rfl) rfl<|vl_vg rfl (q_move rfl) rfl<|vl_vg rfl (q_nilck rfl) rfl<|vl_vg rfl (q_fldA fo93_0 (by decide) rfl rfl) rfl<|vl_vg rfl (q_load 0 U22 rfl rfl rfl rfl) rfl<|vl_vg rfl (q_lenS U22 rfl) rfl<|vl_vg rfl (q_gtr_n (q:=0) U3 rfl rfl) rfl<|vl_v (q_pickF rfl rfl) rfl ?_
 refine vl_nil<|th_n<|VC_cond rfl (fun ht13=>?_) (fun ht13=>?_)
 ·skip
  exfalso;have ht13:=of_decide_eq_true ht13;omega
 ·skip
  have ht13:=of_decide_eq_false ht13
  refine VC_skip<|⟨_,res0 rfl,?_⟩
  exact ⟨rfl,rfl⟩
theorem must_bad1 {w0:World} {L:List Res} (b:Nat) (A:Option Addr) (m c:Nat)  (w:World) (H:St [] w0 (.blk b 93 [.slice A m c]::L) w) :
 Calls Tryz.prog 39 #[vP b 0,.bool false] w fun e w'=>e=.panicked (chOf 2)∧St [] w0 (.blk b 93 [.slice A m c]::L) w':=by
 refine enter (n:=15) (R:=fun e M=>e=.panicked (chOf 2)∧M=.blk b 93 [.slice A m c]::L) [vP b 0,.bool false] F39 rfl rfl rfl H ?_ (fun e w' L' h H=>⟨h.1,h.2 ▸ H⟩)
 refine VC_seq<|VC_region<|vl_v (q_move rfl) rfl<|vl_v (q_not rfl) rfl<|vl_v (q_move rfl) rfl<|vl_skip rfl rfl<|vl_skip rfl rfl<|vl_skip rfl rfl<|vl_skip rfl rfl<|vl_skip rfl rfl<|vl_skip rfl rfl<|vl_v (q_pickT rfl rfl) rfl ?_
 exact vl_nil<|th_n<|VC_yes (rfl)<|VC_region<|vl_v (q_iface U29 rfl) rfl<|l_panic rfl<|⟨rfl,rfl⟩
theorem must_bad2 {w0:World} {L:List Res} (b:Nat) (A:Option Addr) (m c:Nat) (hm:0<m) (w:World) (H:St [] w0 (.blk b 93 [.slice A m c]::L) w) :
 Calls Tryz.prog 39 #[vP b 0,.bool true] w fun e w'=>e=.panicked (chOf 2)∧St [] w0 (.blk b 93 [.slice A m c]::L) w':=by
 refine enter (n:=15) (R:=fun e M=>e=.panicked (chOf 2)∧M=.blk b 93 [.slice A m c]::L) [vP b 0,.bool true] F39 rfl rfl rfl H ?_ (fun e w' L' h H=>⟨h.1,h.2 ▸ H⟩)
 refine VC_seq<|VC_region<|vl_v (q_move rfl) rfl<|vl_v (q_not rfl) rfl<|vl_v (q_move rfl) rfl<|vl_vg rfl (q_move rfl) rfl<|vl_vg rfl (q_nilck rfl) rfl<|vl_vg rfl (q_fldA fo93_0 (by decide) rfl rfl) rfl<|vl_vg rfl (q_load 0 U22 rfl rfl rfl rfl) rfl<|vl_vg rfl (q_lenS U22 rfl) rfl<|vl_vg rfl (q_gtr_n (q:=0) U3 rfl rfl) rfl<|vl_v (q_pickF rfl rfl) rfl ?_
 refine vl_nil<|th_n<|VC_cond rfl (fun ht13=>?_) (fun ht13=>?_)
 ·skip
  have ht13:=of_decide_eq_true ht13
  exact VC_region<|vl_v (q_iface U29 rfl) rfl<|l_panic rfl<|⟨rfl,rfl⟩
 ·skip
  exfalso;have ht13:=of_decide_eq_false ht13;omega
theorem headC_at32 {pub:List UInt8} (hp:pub.length=32) (p q:Int):(headC pub p q)[32]?=some (vI p):=by unfold headC;rw [List.getElem?_append_right (by simp [bys,hp])];simp [bys,hp]
theorem headC_at33 {pub:List UInt8} (hp:pub.length=32) (p q:Int):(headC pub p q)[33]?=some (vI q):=by unfold headC;rw [List.getElem?_append_right (by simp [bys,hp])];simp [bys,hp]
theorem headC_pub {pub:List UInt8} (hp:pub.length=32) (p q:Int):(headC pub p q).take 32=bys pub:=by unfold headC;rw [List.take_left' (by simp [bys,hp])]
def rowTo (w:World) (n:Nat) (l:List UInt8) (u:Value) (e:Ending) (L:List Res):Prop:=∃ v,e=.returned (.tuple #[v,u])∧∀ w',St [] w L w'→St [] w [.row 5 1 v n (bys l)] w'
theorem hbytes_ok (pub:List UInt8) (x y:Nat) (hp:pub.length=32) (hx:x≤1000000) (hy:y≤1000000) (w:World) :
 Calls Tryz.prog 32 #[.agg (headC pub x y).toArray] w fun e w'=>∃ v,e=.returned (.tuple #[v,vN 0])∧St [] w [.row 5 1 v 40 (bys (headB pub x y))] w':=by
 have h0:=headC_length hp x y
 have g0:=headC_at32 hp x y
 have g1:=headC_at33 hp x y
 have g2:=headC_pub hp x y
 have hr:rightB x y=true:=rightB_iff.2 (by omega)
 have hri:=hright_calls pub x y hp
 have l1:=highB_length x 4
 have l2:=highB_length y 4
 have hb:headB pub x y=pub++highB x 4++highB y 4:=rfl
 rw [hb]
 obtain ⟨u1,hu1⟩:∃ u,highB x 4=u:=⟨_,rfl⟩
 obtain ⟨u2,hu2⟩:∃ u,highB y 4=u:=⟨_,rfl⟩
 obtain ⟨c,hc⟩:∃ c,headC pub x y=c:=⟨_,rfl⟩
 rw [hc] at h0 g0 g1 g2 hri ⊢
 rw [hu1] at l1
 rw [hu2] at l2
 rw [hu1,hu2]
 refine enter (n:=24) (R:=rowTo w 40 (pub++u1++u2) (vN 0)) [.agg c.toArray] F32 rfl rfl rfl (St.refl w) ?_ (fun e w' L' h H=>by obtain ⟨v,h1,h2⟩:=h;exact ⟨v,h1,h2 w' H⟩)
 refine VC_seq<|VC_region<|l_boxA rfl rfl<|fun b1=>vl_v (q_assign rfl) rfl<|vl_v (q_assign rfl) rfl<|vl_nil<|th_n<|VC_seq<|VC_seq<|VC_region<|vl_v (q_loads 0 U35 rfl rfl rfl sz35 h0) rfl<|vl_v (q_as (v:=.bool true) (q_callV F73 rfl rfl rfl (fun w1 H1=>hri w1)) (by rw [hr])) rfl ?_
 refine vl_v (q_not rfl) rfl<|vl_nil<|th_n<|VC_no (rfl)<|VC_skip<|th_n<|VC_seq<|VC_region<|l_litA (cs:=bys []) U22 in5 (by decide) rfl rfl rfl rfl (by exact one_all rfl) rfl rfl<|fun b8=>vl_v (q_fldA fo35_0 (by decide) rfl rfl) rfl ?_
 refine vl_v (q_slcA U33 sz5 rfl rfl rfl rfl (.inl rfl) (by omega) (by omega) (by omega) (by omega) (by (try simp only [Nat.mul_one,Nat.zero_add,Nat.zero_mul,Nat.mul_zero,Nat.add_zero])<;>rfl)) rfl ?_
 refine l_append 0 rfl rfl rfl U22 U22 in5 rfl (by decide) (Reads.take (Reads.blk 1 rfl) 32 g2) (by simp only [zb,zu,zw,zi,n64s_length,za];omega) (by with_reducible first | exact bys_one _ | exact u32s_one _ | exact u64s_one _ | exact i64s_one _ | exact n64s_one _ | assumption) (by omega) (by omega) rfl<|fun A11 c11 hc11=>?_
 simp only [List.set_cons_zero,List.set_cons_succ,← bys_append,← u32s_append,← u64s_append,← i64s_append,List.nil_append,Nat.zero_add]
 refine vl_v (q_assign rfl) rfl<|vl_nil<|th_n<|VC_seq<|VC_region<|vl_v (q_move rfl) rfl<|vl_v (q_fldA fo35_1 (by decide) rfl rfl) rfl<|vl_v (q_load 1 U3 rfl rfl rfl g0) rfl<|vl_v (q_conv_nw U3 U78 rfl (by omega)) rfl<|l_callR F26 rfl rfl rfl (fun w1 H1=>hu1 ▸ high_calls x 4 4 rfl (by omega) w1) rfl<|fun A16 c16 hc16 hm16=>l_append 1 rfl rfl rfl U22 U22 in5 rfl (by decide) (Reads.row 0 rfl) (by simp only [zb,zu,zw,zi,n64s_length,za];omega) (by with_reducible first | exact bys_one _ | exact u32s_one _ | exact u64s_one _ | exact i64s_one _ | exact n64s_one _ | assumption) (by omega) (by omega) rfl<|fun A17 c17 hc17=>?_
 simp only [List.set_cons_zero,List.set_cons_succ,← bys_append,← u32s_append,← u64s_append,← i64s_append,List.nil_append,Nat.zero_add]
 refine vl_v (q_assign rfl) rfl<|vl_nil<|th_n<|VC_seq<|VC_region<|vl_v (q_move rfl) rfl<|vl_v (q_fldA fo35_2 (by decide) rfl rfl) rfl<|vl_v (q_load 2 U3 rfl rfl rfl g1) rfl<|vl_v (q_conv_nw U3 U78 rfl (by omega)) rfl<|l_callR F26 rfl rfl rfl (fun w1 H1=>hu2 ▸ high_calls y 4 4 rfl (by omega) w1) rfl<|fun A22 c22 hc22 hm22=>l_append 2 rfl rfl rfl U22 U22 in5 rfl (by decide) (Reads.row 0 rfl) (by simp only [zb,zu,zw,zi,n64s_length,za];omega) (by with_reducible first | exact bys_one _ | exact u32s_one _ | exact u64s_one _ | exact i64s_one _ | exact n64s_one _ | assumption) (by omega) (by omega) rfl<|fun A23 c23 hc23=>?_
 simp only [List.set_cons_zero,List.set_cons_succ,← bys_append,← u32s_append,← u64s_append,← i64s_append,List.nil_append,Nat.zero_add]
 refine vl_v (q_assign rfl) rfl<|vl_v (q_assign rfl) rfl<|vl_nil<|th_n<|VC_ret<|⟨_,res2 rfl rfl rfl,?_⟩
 exact ⟨_,rfl,fun w' H=>by simpa [bys_append,List.append_assoc] using H.pick (ks:=[2]) (by decide) rfl⟩
end Go.Proofs.YtfpdnpppcoomnaaGreat
namespace Go.PBYtfpdnpppcoomnaaGreat
open Go Go.RowKit
def envC (f t:Int) (cm pub:List UInt8) (p q:Int) (sl:Value):List Value:=[vI f,vI t]++(bys cm++(headC pub p q++[sl]))
structure EnvF (c:List Value) (f t:Int) (cm pub:List UInt8) (p q:Int) (sl:Value):Prop where
 len:c.length=69
 g0:c[0]?=some (vI f)
 g1:c[1]?=some (vI t)
 g2:(c.drop 2).take 32=bys cm
 g3:(c.drop 34).take 34=headC pub p q
 g4:c[68]?=some sl
theorem envC_f {f t:Int} {cm pub:List UInt8} {p q:Int} {sl:Value} (hc:cm.length=32) (hp:pub.length=32):EnvF (envC f t cm pub p q sl) f t cm pub p q sl:=by
 have h1:(bys cm).length=32:=by simp [bys,hc]
 have h2:=headC_length hp p q
 refine ⟨?_,rfl,rfl,?_,?_,?_⟩
 ·simp [envC,h1,h2]
 ·show (bys cm++(headC pub p q++[sl])).take 32=_
  rw [List.take_left' h1]
 ·show ((bys cm++(headC pub p q++[sl])).drop 32).take 34=_
  rw [List.drop_left' h1,List.take_left' h2]
 ·show (bys cm++(headC pub p q++[sl]))[66]?=_
  rw [List.getElem?_append_right (by omega),h1,List.getElem?_append_right (by omega),h2]
  rfl
def rightEB (f t p q:Int) (n:Nat):Bool:=decide (0≤min f t)&&decide (max f t<8)&&rightB p q&&decide (n≤600)
theorem rightEB_iff {f t p q:Int} {n:Nat}:rightEB f t p q n=true↔(0≤f∧f≤7∧0≤t∧t≤7)∧rightB p q=true∧n≤600:=by
 unfold rightEB
 rw [Bool.and_eq_true,Bool.and_eq_true,Bool.and_eq_true,decide_eq_true_iff,decide_eq_true_iff,decide_eq_true_iff]
 constructor
 ·rintro ⟨⟨⟨h1,h2⟩,h3⟩,h4⟩;exact ⟨by omega,h3,h4⟩
 ·rintro ⟨h1,h2,h3⟩;exact ⟨⟨⟨by omega,by omega⟩,h2⟩,h3⟩
def envB (f t:Nat) (cm pub:List UInt8) (x y:Nat) (body:List UInt8):List UInt8:=[UInt8.ofNat f,UInt8.ofNat t]++cm++headB pub x y++highB body.length 2++body
theorem envB_length {f t:Nat} {cm pub:List UInt8} {x y:Nat} {body:List UInt8} (hc:cm.length=32) (hp:pub.length=32):(envB f t cm pub x y body).length=76+body.length:=by
 simp only [envB,List.length_append,List.length_cons,List.length_nil,hc,headB_length hp,highB_length]
end Go.PBYtfpdnpppcoomnaaGreat
namespace Go.Proofs.YtfpdnpppcoomnaaGreat
open Go.RowKit Go.PBYtfpdnpppcoomnaaGreat
theorem hrightE_calls (f t:Int) (cm pub:List UInt8) (p q:Int) (n cB:Nat) (B:Option Addr) (hc:cm.length=32) (hp:pub.length=32) (w:World) :
 Calls Tryz.prog 31 #[.agg (envC f t cm pub p q (.slice B n cB)).toArray] w fun e w'=>e=.returned (.bool (rightEB f t p q n))∧Kept [] w w':=by
 have hF:=envC_f (f:=f) (t:=t) (p:=p) (q:=q) (sl:=.slice B n cB) hc hp
 obtain ⟨c,hcc⟩:∃ c,envC f t cm pub p q (.slice B n cB)=c:=⟨_,rfl⟩
 rw [hcc] at hF ⊢
 obtain ⟨h0,g0,g1,g2,g3,g4⟩:=hF
 have hh:=headC_length hp p q
 obtain ⟨r,hr⟩:∃ r,rightB p q=r:=⟨_,rfl⟩
 have hri:=hright_calls pub p q hp
 rw [hr] at hri
 have hre:rightEB f t p q n=(decide (0≤min f t)&&decide (max f t<8)&&r&&decide (n≤600)):=by rw [← hr];rfl
 have hre2:rightEB f t p q n=(decide (0≤f)&&decide (f≤7)&&decide (0≤t)&&decide (t≤7)&&r&&decide (n≤600)):=by
  rw [Bool.eq_iff_iff,rightEB_iff,hr]
  simp only [Bool.and_eq_true,decide_eq_true_iff,and_assoc]
 refine enter (n:=28) (R:=fun e L=>e=.returned (.bool (rightEB f t p q n))) [.agg c.toArray] F31 rfl rfl rfl (St.refl w) ?_ (fun e w' L' h H=>⟨h,H.kept⟩)
 cases r
 ·skip
  refine VC_seq<|VC_region<|l_boxA rfl rfl<|fun b1=>vl_v (q_assign rfl) rfl<|vl_nil<|th_n<|VC_seq<|VC_region<|vl_v (q_fldA fo37_0 (by decide) rfl rfl) rfl<|vl_v (q_load 0 U3 rfl rfl rfl g0) rfl<|vl_v (q_fldA fo37_1 (by decide) rfl rfl) rfl<|vl_v (q_load 0 U3 rfl rfl rfl g1) rfl ?_
  refine vl_v (q_minI rfl rfl) rfl<|vl_v (q_geq_k U3 rfl rfl) rfl ?_
  by_cases hs8:0≤min f t
  ·skip
   rw [show decide (0≤min f t)=true from decide_eq_true hs8]
   refine vl_v (q_move rfl) rfl<|vl_vg rfl (q_fldA fo37_0 (by decide) rfl rfl) rfl<|vl_vg rfl (q_load 0 U3 rfl rfl rfl g0) rfl<|vl_vg rfl (q_fldA fo37_1 (by decide) rfl rfl) rfl<|vl_vg rfl (q_load 0 U3 rfl rfl rfl g1) rfl<|vl_vg rfl (q_maxI rfl rfl) rfl<|vl_vg rfl (q_lss_k U3 rfl rfl) rfl ?_
   by_cases hs15:max f t<8
   ·skip
    rw [show decide (max f t<8)=true from decide_eq_true hs15]
    refine vl_v (q_pickT rfl rfl) rfl<|vl_v (q_move rfl) rfl<|vl_vg rfl (q_fldA fo37_3 (by decide) rfl rfl) rfl<|vl_vg rfl (q_loadsAt 0 U35 rfl rfl rfl sz35 g3 hh) rfl<|vl_vg rfl (q_callV F73 rfl rfl rfl (fun w1 H1=>hri w1)) rfl<|vl_v (q_pickT rfl rfl) rfl<|vl_v (q_move rfl) rfl<|vl_skip rfl rfl<|vl_skip rfl rfl<|vl_skip rfl rfl<|vl_skip rfl rfl<|vl_v (q_pickF rfl rfl) rfl ?_
    refine vl_v (q_assign rfl) rfl<|vl_nil<|th_n<|VC_ret<|⟨_,res1 rfl rfl,?_⟩
    exact congrArg (fun b=>Ending.returned (Value.bool b)) (by rw [hre];(first | rw [decide_eq_true hs8,decide_eq_true hs15] | rw [decide_eq_true hs8,decide_eq_false hs15] | rw [decide_eq_false hs8])<;>rfl)
   ·skip
    rw [show decide (max f t<8)=false from decide_eq_false hs15]
    refine vl_v (q_pickT rfl rfl) rfl<|vl_v (q_move rfl) rfl<|vl_skip rfl rfl<|vl_skip rfl rfl<|vl_skip rfl rfl<|vl_v (q_pickF rfl rfl) rfl<|vl_v (q_move rfl) rfl<|vl_skip rfl rfl<|vl_skip rfl rfl<|vl_skip rfl rfl<|vl_skip rfl rfl<|vl_v (q_pickF rfl rfl) rfl ?_
    refine vl_v (q_assign rfl) rfl<|vl_nil<|th_n<|VC_ret<|⟨_,res1 rfl rfl,?_⟩
    exact congrArg (fun b=>Ending.returned (Value.bool b)) (by rw [hre];(first | rw [decide_eq_true hs8,decide_eq_true hs15] | rw [decide_eq_true hs8,decide_eq_false hs15] | rw [decide_eq_false hs8])<;>rfl)
  ·skip
   rw [show decide (0≤min f t)=false from decide_eq_false hs8]
   refine vl_v (q_move rfl) rfl<|vl_skip rfl rfl<|vl_skip rfl rfl<|vl_skip rfl rfl<|vl_skip rfl rfl<|vl_skip rfl rfl<|vl_skip rfl rfl<|vl_v (q_pickF rfl rfl) rfl<|vl_v (q_move rfl) rfl<|vl_skip rfl rfl<|vl_skip rfl rfl<|vl_skip rfl rfl ?_
   refine vl_v (q_pickF rfl rfl) rfl<|vl_v (q_move rfl) rfl<|vl_skip rfl rfl<|vl_skip rfl rfl<|vl_skip rfl rfl<|vl_skip rfl rfl<|vl_v (q_pickF rfl rfl) rfl<|vl_v (q_assign rfl) rfl<|vl_nil<|th_n<|VC_ret<|⟨_,res1 rfl rfl,?_⟩
   exact congrArg (fun b=>Ending.returned (Value.bool b)) (by rw [hre];(first | rw [decide_eq_true hs8,decide_eq_true hs15] | rw [decide_eq_true hs8,decide_eq_false hs15] | rw [decide_eq_false hs8])<;>rfl)
 ·skip
  refine VC_seq<|VC_region<|l_boxA rfl rfl<|fun b1=>vl_v (q_assign rfl) rfl<|vl_nil<|th_n<|VC_seq<|VC_region<|vl_v (q_fldA fo37_0 (by decide) rfl rfl) rfl<|vl_v (q_load 0 U3 rfl rfl rfl g0) rfl<|vl_v (q_fldA fo37_1 (by decide) rfl rfl) rfl<|vl_v (q_load 0 U3 rfl rfl rfl g1) rfl ?_
  refine vl_v (q_minI rfl rfl) rfl<|vl_v (q_geq_k U3 rfl rfl) rfl ?_
  by_cases hs8:0≤min f t
  ·skip
   rw [show decide (0≤min f t)=true from decide_eq_true hs8]
   refine vl_v (q_move rfl) rfl<|vl_vg rfl (q_fldA fo37_0 (by decide) rfl rfl) rfl<|vl_vg rfl (q_load 0 U3 rfl rfl rfl g0) rfl<|vl_vg rfl (q_fldA fo37_1 (by decide) rfl rfl) rfl<|vl_vg rfl (q_load 0 U3 rfl rfl rfl g1) rfl<|vl_vg rfl (q_maxI rfl rfl) rfl<|vl_vg rfl (q_lss_k U3 rfl rfl) rfl ?_
   by_cases hs15:max f t<8
   ·skip
    rw [show decide (max f t<8)=true from decide_eq_true hs15]
    refine vl_v (q_pickT rfl rfl) rfl<|vl_v (q_move rfl) rfl<|vl_vg rfl (q_fldA fo37_3 (by decide) rfl rfl) rfl<|vl_vg rfl (q_loadsAt 0 U35 rfl rfl rfl sz35 g3 hh) rfl<|vl_vg rfl (q_callV F73 rfl rfl rfl (fun w1 H1=>hri w1)) rfl<|vl_v (q_pickT rfl rfl) rfl<|vl_v (q_move rfl) rfl<|vl_vg rfl (q_fldA fo37_4 (by decide) rfl rfl) rfl<|vl_vg rfl (q_load 0 U22 rfl rfl rfl g4) rfl<|vl_vg rfl (q_lenS U22 rfl) rfl<|vl_vg rfl (q_leq_n (q:=600) U3 rfl rfl) rfl<|vl_v (q_pickT rfl rfl) rfl ?_
    refine vl_v (q_assign rfl) rfl<|vl_nil<|th_n<|VC_ret<|⟨_,res1 rfl rfl,?_⟩
    exact congrArg (fun b=>Ending.returned (Value.bool b)) (by rw [hre];(first | rw [decide_eq_true hs8,decide_eq_true hs15] | rw [decide_eq_true hs8,decide_eq_false hs15] | rw [decide_eq_false hs8])<;>rfl)
   ·skip
    rw [show decide (max f t<8)=false from decide_eq_false hs15]
    refine vl_v (q_pickT rfl rfl) rfl<|vl_v (q_move rfl) rfl<|vl_skip rfl rfl<|vl_skip rfl rfl<|vl_skip rfl rfl<|vl_v (q_pickF rfl rfl) rfl<|vl_v (q_move rfl) rfl<|vl_skip rfl rfl<|vl_skip rfl rfl<|vl_skip rfl rfl<|vl_skip rfl rfl<|vl_v (q_pickF rfl rfl) rfl ?_
    refine vl_v (q_assign rfl) rfl<|vl_nil<|th_n<|VC_ret<|⟨_,res1 rfl rfl,?_⟩
    exact congrArg (fun b=>Ending.returned (Value.bool b)) (by rw [hre];(first | rw [decide_eq_true hs8,decide_eq_true hs15] | rw [decide_eq_true hs8,decide_eq_false hs15] | rw [decide_eq_false hs8])<;>rfl)
  ·skip
   rw [show decide (0≤min f t)=false from decide_eq_false hs8]
   refine vl_v (q_move rfl) rfl<|vl_skip rfl rfl<|vl_skip rfl rfl<|vl_skip rfl rfl<|vl_skip rfl rfl<|vl_skip rfl rfl<|vl_skip rfl rfl<|vl_v (q_pickF rfl rfl) rfl<|vl_v (q_move rfl) rfl<|vl_skip rfl rfl<|vl_skip rfl rfl<|vl_skip rfl rfl ?_
   refine vl_v (q_pickF rfl rfl) rfl<|vl_v (q_move rfl) rfl<|vl_skip rfl rfl<|vl_skip rfl rfl<|vl_skip rfl rfl<|vl_skip rfl rfl<|vl_v (q_pickF rfl rfl) rfl<|vl_v (q_assign rfl) rfl<|vl_nil<|th_n<|VC_ret<|⟨_,res1 rfl rfl,?_⟩
   exact congrArg (fun b=>Ending.returned (Value.bool b)) (by rw [hre];(first | rw [decide_eq_true hs8,decide_eq_true hs15] | rw [decide_eq_true hs8,decide_eq_false hs15] | rw [decide_eq_false hs8])<;>rfl)
theorem henv_bad (f t:Int) (cm pub:List UInt8) (p q:Int) (n cB:Nat) (B:Option Addr) (hc:cm.length=32) (hp:pub.length=32) (hr:rightEB f t p q n=false) (w:World) :
 Calls Tryz.prog 8 #[.agg (envC f t cm pub p q (.slice B n cB)).toArray] w fun e w'=>e=.returned (.tuple #[.slice none 0 0,vN 1])∧Kept [] w w':=by
 have hF:=envC_f (f:=f) (t:=t) (p:=p) (q:=q) (sl:=.slice B n cB) hc hp
 have hE:=hrightE_calls f t cm pub p q n cB B hc hp
 rw [hr] at hE
 obtain ⟨c,hcc⟩:∃ c,envC f t cm pub p q (.slice B n cB)=c:=⟨_,rfl⟩
 rw [hcc] at hF hE ⊢
 have h0:=hF.len
 refine enter (n:=40) (R:=fun e L=>e=.returned (.tuple #[.slice none 0 0,vN 1])) [.agg c.toArray] F8 rfl rfl rfl (St.refl w) ?_ (fun e w' L' h H=>⟨h,H.kept⟩)
 refine VC_seq<|VC_region<|l_boxA rfl rfl<|fun b1=>vl_v (q_assign rfl) rfl<|vl_v (q_assign rfl) rfl<|vl_nil<|th_n<|VC_seq<|VC_seq<|VC_region<|vl_v (q_loads 0 U37 rfl rfl rfl sz37 h0) rfl<|vl_v (q_callV F31 rfl rfl rfl (fun w1 H1=>hE w1)) rfl ?_
 refine vl_v (q_not rfl) rfl<|vl_nil<|th_n<|VC_yes (rfl)<|VC_seq<|VC_region<|vl_v (q_assign rfl) rfl<|vl_v (q_assign rfl) rfl<|vl_nil<|th_n<|VC_ret<|th_r ?_
 refine ⟨_,res2 rfl rfl rfl,?_⟩
 exact rfl
theorem henv_ok (f t:Nat) (cm pub:List UInt8) (x y:Nat) (body:List UInt8) (n cB:Nat) (B:Option Addr) (hn:n=body.length) (hc:cm.length=32) (hp:pub.length=32) (hr:rightEB f t x y n=true) (w:World) (hB:SlAt w B (bys body)) :
 Calls Tryz.prog 8 #[.agg (envC f t cm pub x y (.slice B n cB)).toArray] w fun e w'=>∃ v,e=.returned (.tuple #[v,vN 0])∧St [] w [.row 5 1 v (76+n) (bys (envB f t cm pub x y body))] w':=by
 have hF:=envC_f (f:=(f:Int)) (t:=(t:Int)) (p:=(x:Int)) (q:=(y:Int)) (sl:=.slice B n cB) hc hp
 have hE:=hrightE_calls f t cm pub x y n cB B hc hp
 rw [hr] at hE
 obtain ⟨c,hcc⟩:∃ c,envC f t cm pub x y (.slice B n cB)=c:=⟨_,rfl⟩
 rw [hcc] at hF hE ⊢
 obtain ⟨h0,g0,g1,g2,g3,g4⟩:=hF
 have hh:=headC_length hp x y
 obtain ⟨h1,h2,h3⟩:=rightEB_iff.1 hr
 have h4:=rightB_iff.1 h2
 have hby:=fun w=>hbytes_ok pub x y hp (by omega) (by omega) w
 have l1:=headB_length hp x y
 have l2:=highB_length n 2
 have hb:envB f t cm pub x y body=[UInt8.ofNat f,UInt8.ofNat t]++cm++headB pub x y++highB n 2++body:=by rw [hn];rfl
 rw [hb]
 obtain ⟨hB8,eh⟩:∃ u,headB pub x y=u:=⟨_,rfl⟩
 obtain ⟨u2,eu⟩:∃ u,highB n 2=u:=⟨_,rfl⟩
 obtain ⟨a0,ea0⟩:∃ u,UInt8.ofNat f=u:=⟨_,rfl⟩
 obtain ⟨a1,ea1⟩:∃ u,UInt8.ofNat t=u:=⟨_,rfl⟩
 rw [eh] at l1 hby ⊢
 rw [eu] at l2 ⊢
 rw [ea0,ea1]
 have lb:(bys body).length=n:=by simp [bys,hn]
 refine enter (n:=40) (R:=rowTo w (76+n) ([a0,a1]++cm++hB8++u2++body) (vN 0)) [.agg c.toArray] F8 rfl rfl rfl (St.refl w) ?_ (fun e w' L' h H=>by obtain ⟨v,h1,h2⟩:=h;exact ⟨v,h1,h2 w' H⟩)
 refine VC_seq<|VC_region<|l_boxA rfl rfl<|fun b1=>vl_v (q_assign rfl) rfl<|vl_v (q_assign rfl) rfl<|vl_nil<|th_n<|VC_seq<|VC_seq<|VC_region<|vl_v (q_loads 0 U37 rfl rfl rfl sz37 h0) rfl<|vl_v (q_callV F31 rfl rfl rfl (fun w1 H1=>hE w1)) rfl ?_
 refine vl_v (q_not rfl) rfl<|vl_nil<|th_n<|VC_no (rfl)<|VC_skip<|th_n<|VC_seq<|VC_drawM 9 [[],[0],[1],[],[3],[4],[2,5],[],[7],[6,8],[9,0,1,2,3,4,5,6,7,8]] [[],[0],[0,1],[],[3],[3,4],[0,1,2,3,4,5],[],[7],[0,1,2,3,4,5,6,7,8],[0,1,2,3,4,5,6,7,8,9]] rfl (by kernel_rfl)<|qm_v (fun xs hx=>q_fldA fo37_0 (by decide) rfl rfl)<|qm_v (fun xs hx=>q_load 0 U3 rfl rfl rfl g0)<|qm_v (fun xs hx=>q_as (v:=vU8 a0) (q_conv_nu8 U3 U5 rfl) (by rw [ea0]))<|qm_v (fun xs hx=>q_fldA fo37_1 (by decide) rfl rfl) ?_
 refine qm_v (fun xs hx=>q_load 0 U3 rfl rfl rfl g1)<|qm_v (fun xs hx=>q_as (v:=vU8 a1) (q_conv_nu8 U3 U5 rfl) (by rw [ea1]))<|qm_a (fun xs hx=>q_litA (cs:=bys [a0,a1]) U22 in5 (by decide) rfl rfl rfl rfl (one_all rfl) rfl)<|qm_v (fun xs hx=>q_fldA fo37_2 (by decide) rfl rfl) ?_
 refine qm_v (fun xs hx=>q_slcA U33 sz5 rfl rfl rfl rfl (.inl rfl) (by omega) (by omega) (by omega) (by omega) (by (try simp only [Nat.mul_one,Nat.zero_add,Nat.zero_mul,Nat.mul_zero,Nat.add_zero])<;>rfl)) ?_
 refine qm_end<|fun xs hx=>?_
 obtain ⟨⟨b16,e16⟩,_⟩:=hx
 simp only [e16]
 simp only [resT,nRow,nBlk,nRowT,tupAt_0,List.append_assoc,List.nil_append,List.append_nil,List.cons_append,List.singleton_append,e16]
 refine VL.keep (kp [0,1,2,3,9,16,18] rfl)<|l_append 0 rfl rfl rfl U22 U22 in5 rfl (by decide) (Reads.blkTake 1 2 32 rfl g2) (by simp only [zb,zu,zw,zi,n64s_length,za];omega) (by with_reducible first | exact bys_one _ | exact u32s_one _ | exact u64s_one _ | exact i64s_one _ | exact n64s_one _ | assumption) (by omega) (by omega) rfl<|fun A19 c19 hc19=>?_
 simp only [List.set_cons_zero,List.set_cons_succ,← bys_append,← u32s_append,← u64s_append,← i64s_append,List.nil_append,Nat.zero_add]
 refine vl_v (q_assign rfl) rfl<|vl_nil<|qn_n<|th_n<|VC_seq<|VC_region<|vl_v (q_fldA fo37_3 (by decide) rfl rfl) rfl<|vl_v (q_loadsAt 1 U35 rfl rfl rfl sz35 g3 hh) rfl<|l_callT F32 rfl rfl rfl (fun w1 H1=>hby w1) rfl<|fun A23 c23 hc23 hm23=>vl_v (q_move rfl) rfl<|vl_v (q_ext rfl rfl) rfl<|vl_v (q_ext rfl rfl) rfl<|vl_v (q_assign rfl) rfl ?_
 refine vl_v (q_assign rfl) rfl<|vl_nil<|th_n<|VC_seq<|VC_region<|vl_v (q_move rfl) rfl<|vl_v (q_move rfl) rfl<|l_append 1 rfl rfl rfl U22 U22 in5 rfl (by decide) (Reads.row 0 rfl) (by simp only [zb,zu,zw,zi,n64s_length,za];omega) (by with_reducible first | exact bys_one _ | exact u32s_one _ | exact u64s_one _ | exact i64s_one _ | exact n64s_one _ | assumption) (by omega) (by omega) rfl<|fun A28 c28 hc28=>?_
 simp only [List.set_cons_zero,List.set_cons_succ,← bys_append,← u32s_append,← u64s_append,← i64s_append,List.nil_append,Nat.zero_add]
 refine vl_v (q_assign rfl) rfl<|vl_nil<|th_n<|VC_seq<|VC_region<|vl_v (q_move rfl) rfl<|vl_v (q_fldA fo37_4 (by decide) rfl rfl) rfl<|vl_v (q_load 2 U22 rfl rfl rfl g4) rfl<|vl_v (q_lenS U22 rfl) rfl<|vl_v (q_conv_nw U3 U78 rfl (by omega)) rfl<|l_callR F26 rfl rfl rfl (fun w1 H1=>eu ▸ high_calls n 2 2 rfl (by omega) w1) rfl<|fun A34 c34 hc34 hm34=>l_append 2 rfl rfl rfl U22 U22 in5 rfl (by decide) (Reads.row 0 rfl) (by simp only [zb,zu,zw,zi,n64s_length,za];omega) (by with_reducible first | exact bys_one _ | exact u32s_one _ | exact u64s_one _ | exact i64s_one _ | exact n64s_one _ | assumption) (by omega) (by omega) rfl ?_
 intro A35 c35 hc35
 simp only [List.set_cons_zero,List.set_cons_succ,← bys_append,← u32s_append,← u64s_append,← i64s_append,List.nil_append,Nat.zero_add]
 refine vl_v (q_assign rfl) rfl<|vl_nil<|th_n<|VC_seq<|VC_region<|vl_v (q_move rfl) rfl<|vl_v (q_fldA fo37_4 (by decide) rfl rfl) rfl<|vl_v (q_load 3 U22 rfl rfl rfl g4) rfl<|l_append 2 rfl rfl rfl U22 U22 in5 rfl (by decide) (Reads.old hB) (by omega) (by with_reducible first | exact bys_one _ | exact u32s_one _ | exact u64s_one _ | exact i64s_one _ | exact n64s_one _ | assumption) (by omega) (by omega) rfl<|fun A39 c39 hc39=>?_
 simp only [List.set_cons_zero,List.set_cons_succ,← bys_append,← u32s_append,← u64s_append,← i64s_append,List.nil_append,Nat.zero_add]
 refine vl_v (q_assign rfl) rfl<|vl_v (q_assign rfl) rfl<|vl_nil<|th_n<|VC_ret<|⟨_,res2 rfl rfl rfl,?_⟩
 exact ⟨_,rfl,fun w' H=>by simpa [bys_append,List.append_assoc] using H.pick (ks:=[2]) (by decide) rfl⟩
end Go.Proofs.YtfpdnpppcoomnaaGreat
namespace Go.PBYtfpdnpppcoomnaaGreat
open Go Go.RowKit
theorem highB_succ (n k:Nat):highB n (k+1)=lowAt n k::highB n k:=by
 simp [highB,lowB_succ]
theorem lowAt_toNat (n k:Nat):(lowAt n k).toNat=n / 2^(8*k) % 256:=by
 simp [lowAt,UInt8.toNat_ofNat']
theorem ofHigh_start (l:List UInt8):∀ n,l.foldl (fun n c=>n*256+c.toNat) n=n*256^l.length+ofHigh l:=by
 induction l with
 | nil=>intro n;simp [ofHigh]
 | cons x l ih =>
  intro n
  have h0:ofHigh (x::l)=l.foldl (fun n c=>n*256+c.toNat) (0*256+x.toNat):=rfl
  rw [List.foldl_cons,h0,ih,ih (0*256+x.toNat),List.length_cons,Nat.pow_succ,Nat.add_mul,Nat.mul_assoc,Nat.mul_comm 256 (256^l.length)]
  simp
  omega
theorem ofHigh_cons (x:UInt8) (l:List UInt8):ofHigh (x::l)=x.toNat*256^l.length+ofHigh l:=by
 show l.foldl (fun n c=>n*256+c.toNat) (0*256+x.toNat)=_
 rw [ofHigh_start]
 simp
theorem ofHigh_highB (n k:Nat):ofHigh (highB n k)=n % 256^k:=by
 induction k with
 | zero=>simp [highB,lowB,ofHigh,Nat.mod_one]
 | succ k ih =>
  rw [highB_succ,ofHigh_cons,highB_length,ih,lowAt_toNat]
  have e:(2:Nat)^(8*k)=256^k:=by rw [Nat.pow_mul]
  rw [e,Nat.pow_succ,Nat.mod_mul,Nat.mul_comm (n / 256^k % 256) _]
  omega
theorem partOf_join:∀ (ls:List (List UInt8)),(∀ b∈ls,b.length<4294967296)→partOf (joinB ls)=some ls
 | [],_=>rfl
 | x::r,h=>by
  have hx:x.length<4294967296:=h x (by simp)
  have ih:=partOf_join r (fun b hb=>h b (by simp [hb]))
  have e:joinB (x::r)=highB x.length 4++(x++joinB r):=by simp [joinB]
  have et:(joinB (x::r)).take 4=highB x.length 4:=by rw [e];exact List.take_left' (highB_length _ _)
  have ed:(joinB (x::r)).drop 4=x++joinB r:=by rw [e];exact List.drop_left' (highB_length _ _)
  have en:ofHigh (highB x.length 4)=x.length:=by rw [ofHigh_highB];exact Nat.mod_eq_of_lt (by simpa using hx)
  have el:(joinB (x::r)).length=4+(x.length+(joinB r).length):=by rw [e];simp [highB_length]
  rw [partOf_step (by omega) (by rw [et,en];omega),et,ed,en,List.drop_left,List.take_left,ih]
  rfl
theorem rdP_headB {pub:List UInt8} (h:pub.length=32) (x y:Nat):rdP (headB pub x y)=pub:=by
 unfold rdP headB
 rw [List.append_assoc,List.take_left' h]
theorem rdM_headB {pub:List UInt8} (h:pub.length=32) {x y:Nat} (hx:x<4294967296):rdM (headB pub x y)=x:=by
 unfold rdM headB
 rw [List.append_assoc,List.drop_left' h,List.take_left' (highB_length x 4),ofHigh_highB]
 omega
theorem rdN_headB {pub:List UInt8} (h:pub.length=32) {x y:Nat} (hy:y<4294967296):rdN (headB pub x y)=y:=by
 unfold rdN headB
 rw [List.drop_left' (by rw [List.length_append,h,highB_length]),List.take_of_length_le (by rw [highB_length];omega),ofHigh_highB]
 omega
theorem envC_set0 {f f' t:Int} {cm pub:List UInt8} {p q:Int} {sl:Value}:(envC f t cm pub p q sl).set 0 (vI f')=envC f' t cm pub p q sl:=rfl
theorem envC_set1 {f t t':Int} {cm pub:List UInt8} {p q:Int} {sl:Value}:(envC f t cm pub p q sl).set 1 (vI t')=envC f t' cm pub p q sl:=rfl
theorem splice_mid (a b c v:List Value) (j:Nat) (ha:a.length=j) (hv:v.length=b.length):splice (a++(b++c)) j v=a++(v++c):=by
 subst ha
 unfold splice
 simp [hv]
theorem envC_spl2 {f t:Int} {cm cm' pub:List UInt8} {p q:Int} {sl:Value} (hc:cm.length=32) (hc':cm'.length=32):splice (envC f t cm pub p q sl) 2 (bys cm')=envC f t cm' pub p q sl :=
 splice_mid [vI f,vI t] (bys cm) (headC pub p q++[sl]) (bys cm') 2 rfl (by simp [bys,hc,hc'])
theorem envC_spl34 {f t:Int} {cm pub pub':List UInt8} {p q p' q':Int} {sl:Value} (hc:cm.length=32) (hp:pub.length=32) (hp':pub'.length=32):splice (envC f t cm pub p q sl) 34 (headC pub' p' q')=envC f t cm pub' p' q' sl:=by
 have h:=splice_mid ([vI f,vI t]++bys cm) (headC pub p q) [sl] (headC pub' p' q') 34 (by simp [bys,hc]) (by rw [headC_length hp,headC_length hp'])
 simpa [envC,List.append_assoc] using h
theorem envC_set68 {f t:Int} {cm pub:List UInt8} {p q:Int} {sl sl':Value} (hc:cm.length=32) (hp:pub.length=32):(envC f t cm pub p q sl).set 68 sl'=envC f t cm pub p q sl':=by
 have h1:([vI f,vI t]++(bys cm++headC pub p q)).length=68:=by simp [bys,hc,headC_length hp]
 have e:∀ s:Value,envC f t cm pub p q s=([vI f,vI t]++(bys cm++headC pub p q))++[s]:=by intro s;simp [envC,List.append_assoc]
 rw [e sl,e sl',List.set_append_right _ _ (by omega),h1]
 rfl
theorem envC_len {f t:Int} {cm pub:List UInt8} {p q:Int} {sl:Value} (hc:cm.length=32) (hp:pub.length=32):(envC f t cm pub p q sl).length=69:=(envC_f (f:=f) (t:=t) (p:=p) (q:=q) (sl:=sl) hc hp).len
theorem envC_one {f t:Int} {cm pub:List UInt8} {p q:Int} {sl:Value} (hs:sl.oneCell'=true):∀ u∈envC f t cm pub p q sl,u.oneCell'=true:=by
 intro u hu
 unfold envC at hu
 rcases List.mem_append.1 hu with h | h
 ·exact one_all rfl u h
 rcases List.mem_append.1 h with h | h
 ·exact bys_one _ u h
 rcases List.mem_append.1 h with h | h
 ·exact app_one (bys_one _) (one_all rfl) u h
 ·rw [List.mem_singleton] at h;exact h ▸ hs
def zEnvC:List Value:=envC 0 0 (List.replicate 32 0) (List.replicate 32 0) 0 0 (.slice none 0 0)
theorem zEnvC_length:zEnvC.length=69:=envC_len (by simp) (by simp)
theorem zEnvC_one:∀ u∈zEnvC,u.oneCell'=true:=envC_one rfl
def reF (l:List UInt8):Nat:=ofHigh (l.take 1)
def reT (l:List UInt8):Nat:=ofHigh ((l.drop 1).take 1)
def reC (l:List UInt8):List UInt8:=(l.drop 2).take 32
def reN (l:List UInt8):Nat:=ofHigh ((l.drop 74).take 2)
theorem reN_lt (l:List UInt8):reN l<65536:=by
 have h1:=ofHigh_lt ((l.drop 74).take 2)
 have h2:256^((l.drop 74).take 2).length≤256^2:=Nat.pow_le_pow_right (by omega) (by simp;omega)
 unfold reN;omega
def reR (l:List UInt8) (n:Nat):Bool:=rightEB (reF l) (reT l) (rdM (l.drop 34)) (rdN (l.drop 34)) n
def reOk (l:List UInt8):Bool:=reR l (reN l)&&decide (l.length=76+reN l)
def reE (l:List UInt8):Nat:=if l.length<76 then 3 else if l.length<76+reN l then 3 else if reOk l then 0 else 2
end Go.PBYtfpdnpppcoomnaaGreat
namespace Go.Proofs.YtfpdnpppcoomnaaGreat
open Go.RowKit Go.PBYtfpdnpppcoomnaaGreat
section
variable {w0 : World} (b : Nat) (l : List UInt8) (A : Option Addr) (m c : Nat)
theorem take_s (n:Nat) (hm:m=l.length) (hc:m≤c) (hn:n≤m) (hA:SlAt w0 A (bys l)):∃ A' c',SlAt w0 A' (bys (l.drop n))∧m-n≤c'∧∀ L w,St [] w0 (.blk b 93 [.slice A m c]::L) w →
 Calls Tryz.prog 38 #[vP b 0,vN n] w fun e w'=>e=.returned (.slice A n c)∧St [] w0 (.blk b 93 [.slice A' (m-n) c']::L) w' :=
 ⟨_,_,adv_at (n:=n) hA hm hc,by omega,fun L w H=>take_ok b l A m c n hm hc hn w H⟩
theorem number_s (n:Nat) (hm:m=l.length) (hc:m≤c) (hn:n≤m) (h7:n≤7) (hA:SlAt w0 A (bys l)):∃ A' c',SlAt w0 A' (bys (l.drop n))∧m-n≤c'∧∀ L w,St [] w0 (.blk b 93 [.slice A m c]::L) w →
 Calls Tryz.prog 35 #[vP b 0,vN n] w fun e w'=>e=.returned (vN (ofHigh (l.take n)))∧St [] w0 (.blk b 93 [.slice A' (m-n) c']::L) w' :=
 ⟨_,_,adv_at (n:=n) hA hm hc,by omega,fun L w H=>number_ok b l A m c n _ hm hc hn h7 hA rfl w H⟩
theorem key_s (hm:m=l.length) (hc:m≤c) (hn:32≤m) (hA:SlAt w0 A (bys l)):∃ A' c',SlAt w0 A' (bys (l.drop 32))∧m-32≤c'∧∀ L w,St [] w0 (.blk b 93 [.slice A m c]::L) w →
 Calls Tryz.prog 36 #[vP b 0] w fun e w'=>e=.returned (.agg (bys (l.take 32)).toArray)∧St [] w0 (.blk b 93 [.slice A' (m-32) c']::L) w' :=
 ⟨_,_,adv_at (n:=32) hA hm hc,by omega,fun L w H=>key_ok b l A m c hm hc hn hA w H⟩
theorem head_s (hm:m=l.length) (hc:m≤c) (hn:40≤m) (hA:SlAt w0 A (bys l)):∃ A' c',SlAt w0 A' (bys (l.drop 40))∧m-40≤c'∧∀ L w,St [] w0 (.blk b 93 [.slice A m c]::L) w →
 Calls Tryz.prog 37 #[vP b 0] w fun e w'=>e=.returned (.agg (headC (rdP l) (rdM l) (rdN l)).toArray)∧St [] w0 (.blk b 93 [.slice A' (m-40) c']::L) w':=by
 have A1:=adv_at (n:=32) hA hm hc
 have A2:=adv_at (m:=m-32) (c:=c-32) (n:=4) A1 (by simp;omega) (by omega)
 have A3:=adv_at (m:=m-32-4) (c:=c-32-4) (n:=4) A2 (by simp;omega) (by omega)
 rw [List.drop_drop,List.drop_drop] at A3
 refine ⟨adv (adv (adv A 32 c 1) 4 (c-32) 1) 4 (c-32-4) 1,c-32-4-4,A3,by omega,fun L w H=>?_⟩
 have:=head_ok b l _ A m c _ _ hm hc hn hA rfl rfl rfl w H
 rw [show m-32-4-4=m-40 by omega] at this
 exact this
end
abbrev reL (b5 b9 b4:Nat) (x2:Res) (f t:Int) (cm pub:List UInt8) (p q:Int) (n:Nat) (body:List UInt8) (x:Value × Option Addr × Nat):List Res :=
 [.row 5 1 (.slice x.2.1 n x.2.2) n (bys body),.blk b5 91 [vP b9 0],.blk b9 93 [x.1],.blk b4 37 (envC f t cm pub p q (.slice x.2.1 n x.2.2)),x2]
abbrev rxL (b5 b9 b4:Nat) (x2:Res) (x:Value × List Value):List Res:=[.blk b5 91 [vP b9 0],.blk b9 93 [x.1],.blk b4 37 x.2,x2]
theorem renv_b0 {w0:World} (b5 b9 b4:Nat) (x1 x2:Res) (l:List UInt8) (A:Option Addr) (m c:Nat) (hm:m=l.length) (hc:m≤c) (hn:m<1) (hA:SlAt w0 A (bys l)) (w:World) (H:St [] w0 [.blk b5 91 [vP b9 0],.blk b9 93 [.slice A m c],.blk b4 37 zEnvC,x1,x2] w) :
 Calls Tryz.prog 34 #[vP b5 0,vP b4 0] w fun e w'=>e=gaveUp (some 3)∧∃ x,St [] w0 (x1::rxL b5 b9 b4 x2 x) w':=by
 have hz32:(List.replicate 32 (0:UInt8)).length=32:=by simp
 have ez:zEnvC=envC 0 0 (List.replicate 32 0) (List.replicate 32 0) 0 0 (.slice none 0 0):=rfl
 rw [ez] at H
 have elen:=fun (f t:Int) (p q:Int) (s:Value)=>envC_len (f:=f) (t:=t) (p:=p) (q:=q) (sl:=s) hz32 hz32
 refine enter (n:=25) (R:=fun e M=>e=.panicked (chOf 3)∧∀ w',St [] w0 M w'→∃ x,St [] w0 (x1::rxL b5 b9 b4 x2 x) w') [vP b5 0,vP b4 0] F34 rfl rfl rfl H ?_ (fun e w' L' h H=>⟨h.1,h.2 w' H⟩)
 refine VC_seq<|VC_region<|vl_v (q_load 0 U91 rfl rfl rfl rfl) rfl<|l_callX F35 rfl rfl rfl (fun w1 H1=>(number_bad b9 A m c 1 (by omega) w1 (H1.perm (List.Perm.swap _ _ _))).mono fun e w' h=>⟨h.1,h.2.perm (List.Perm.swap _ _ _)⟩) ?_
 exact th_p<|⟨rfl,fun w' H=>⟨(_,_),H.pick (ks:=[3,0,1,2,4]) (by decide) rfl⟩⟩
theorem renv_b1 {w0:World} (b5 b9 b4:Nat) (x1 x2:Res) (l:List UInt8) (A:Option Addr) (m c:Nat) (hm:m=l.length) (hc:m≤c) (hn:m=1) (hA:SlAt w0 A (bys l)) (w:World) (H:St [] w0 [.blk b5 91 [vP b9 0],.blk b9 93 [.slice A m c],.blk b4 37 zEnvC,x1,x2] w) :
 Calls Tryz.prog 34 #[vP b5 0,vP b4 0] w fun e w'=>e=gaveUp (some 3)∧∃ x,St [] w0 (x1::rxL b5 b9 b4 x2 x) w':=by
 have hz32:(List.replicate 32 (0:UInt8)).length=32:=by simp
 have ez:zEnvC=envC 0 0 (List.replicate 32 0) (List.replicate 32 0) 0 0 (.slice none 0 0):=rfl
 rw [ez] at H
 have elen:=fun (f t:Int) (p q:Int) (s:Value)=>envC_len (f:=f) (t:=t) (p:=p) (q:=q) (sl:=s) hz32 hz32
 obtain ⟨A1,c1,hA1,hc1,s0⟩:=number_s (w0:=w0) b9 l A m c 1 hm hc (by omega) (by omega) hA
 have ef:ofHigh (l.take 1)=reF l:=rfl
 rw [ef] at s0
 refine enter (n:=25) (R:=fun e M=>e=.panicked (chOf 3)∧∀ w',St [] w0 M w'→∃ x,St [] w0 (x1::rxL b5 b9 b4 x2 x) w') [vP b5 0,vP b4 0] F34 rfl rfl rfl H ?_ (fun e w' L' h H=>⟨h.1,h.2 w' H⟩)
 refine VC_seq<|VC_region<|vl_v (q_load 0 U91 rfl rfl rfl rfl) rfl<|l_callE F35 rfl rfl rfl (fun w1 H1=>(s0 _ w1 (H1.perm (List.Perm.swap _ _ _))).mono fun e w' h=>⟨h.1,h.2.perm (List.Perm.swap _ _ _)⟩) rfl ?_
 refine vl_v (q_fldA fo37_0 (by decide) rfl rfl) rfl<|l_store1 2 rfl rfl rfl sz3 rfl (by decide) ?_
 simp only [List.set_cons_zero,List.set_cons_succ]
 refine vl_nil<|th_n<|VC_seq ?_
 rw [envC_set0]
 refine VC_region<|vl_v (q_load 0 U91 rfl rfl rfl rfl) rfl<|l_callX F35 rfl rfl rfl (fun w1 H1=>(number_bad b9 A1 (m-1) c1 1 (by omega) w1 (H1.perm (List.Perm.swap _ _ _))).mono fun e w' h=>⟨h.1,h.2.perm (List.Perm.swap _ _ _)⟩) ?_
 exact th_p<|⟨rfl,fun w' H=>⟨(_,_),H.pick (ks:=[3,0,1,2,4]) (by decide) rfl⟩⟩
theorem renv_b2 {w0:World} (b5 b9 b4:Nat) (x1 x2:Res) (l:List UInt8) (A:Option Addr) (m c:Nat) (hm:m=l.length) (hc:m≤c) (h2:2≤m) (hn:m<34) (hA:SlAt w0 A (bys l)) (w:World) (H:St [] w0 [.blk b5 91 [vP b9 0],.blk b9 93 [.slice A m c],.blk b4 37 zEnvC,x1,x2] w) :
 Calls Tryz.prog 34 #[vP b5 0,vP b4 0] w fun e w'=>e=gaveUp (some 3)∧∃ x,St [] w0 (x1::rxL b5 b9 b4 x2 x) w':=by
 have hz32:(List.replicate 32 (0:UInt8)).length=32:=by simp
 have ez:zEnvC=envC 0 0 (List.replicate 32 0) (List.replicate 32 0) 0 0 (.slice none 0 0):=rfl
 rw [ez] at H
 have elen:=fun (f t:Int) (p q:Int) (s:Value)=>envC_len (f:=f) (t:=t) (p:=p) (q:=q) (sl:=s) hz32 hz32
 obtain ⟨A1,c1,hA1,hc1,s0⟩:=number_s (w0:=w0) b9 l A m c 1 hm hc (by omega) (by omega) hA
 have ef:ofHigh (l.take 1)=reF l:=rfl
 rw [ef] at s0
 obtain ⟨A2,c2,hA2,hc2,s1⟩:=number_s (w0:=w0) b9 (l.drop 1) A1 (m-1) c1 1 (by simp;omega) hc1 (by omega) (by omega) hA1
 have et:ofHigh ((l.drop 1).take 1)=reT l:=rfl
 rw [et] at s1
 rw [List.drop_drop] at hA2
 have hA2:SlAt w0 A2 (bys (l.drop 2)):=hA2
 refine enter (n:=25) (R:=fun e M=>e=.panicked (chOf 3)∧∀ w',St [] w0 M w'→∃ x,St [] w0 (x1::rxL b5 b9 b4 x2 x) w') [vP b5 0,vP b4 0] F34 rfl rfl rfl H ?_ (fun e w' L' h H=>⟨h.1,h.2 w' H⟩)
 refine VC_seq<|VC_region<|vl_v (q_load 0 U91 rfl rfl rfl rfl) rfl<|l_callE F35 rfl rfl rfl (fun w1 H1=>(s0 _ w1 (H1.perm (List.Perm.swap _ _ _))).mono fun e w' h=>⟨h.1,h.2.perm (List.Perm.swap _ _ _)⟩) rfl ?_
 refine vl_v (q_fldA fo37_0 (by decide) rfl rfl) rfl<|l_store1 2 rfl rfl rfl sz3 rfl (by decide) ?_
 simp only [List.set_cons_zero,List.set_cons_succ]
 refine vl_nil<|th_n<|VC_seq ?_
 rw [envC_set0]
 refine VC_region<|vl_v (q_load 0 U91 rfl rfl rfl rfl) rfl<|l_callE F35 rfl rfl rfl (fun w1 H1=>(s1 _ w1 (H1.perm (List.Perm.swap _ _ _))).mono fun e w' h=>⟨h.1,h.2.perm (List.Perm.swap _ _ _)⟩) rfl ?_
 refine vl_v (q_fldA fo37_1 (by decide) rfl rfl) rfl ?_
 refine l_store1 2 rfl rfl rfl sz3 rfl (by simp only [envC_len, *]<;>omega) ?_
 simp only [List.set_cons_zero,List.set_cons_succ]
 refine vl_nil<|th_n<|VC_seq ?_
 rw [envC_set1]
 refine VC_region<|vl_v (q_load 0 U91 rfl rfl rfl rfl) rfl<|l_callX F36 rfl rfl rfl (fun w1 H1=>(key_bad b9 A2 (m-1-1) c2 (by omega) w1 (H1.perm (List.Perm.swap _ _ _))).mono fun e w' h=>⟨h.1,h.2.perm (List.Perm.swap _ _ _)⟩) ?_
 exact th_p<|⟨rfl,fun w' H=>⟨(_,_),H.pick (ks:=[3,0,1,2,4]) (by decide) rfl⟩⟩
theorem renv_b3 {w0:World} (b5 b9 b4:Nat) (x1 x2:Res) (l:List UInt8) (A:Option Addr) (m c:Nat) (hm:m=l.length) (hc:m≤c) (h2:34≤m) (hn:m<74) (hA:SlAt w0 A (bys l)) (w:World) (H:St [] w0 [.blk b5 91 [vP b9 0],.blk b9 93 [.slice A m c],.blk b4 37 zEnvC,x1,x2] w) :
 Calls Tryz.prog 34 #[vP b5 0,vP b4 0] w fun e w'=>e=gaveUp (some 3)∧∃ x,St [] w0 (x1::rxL b5 b9 b4 x2 x) w':=by
 have hz32:(List.replicate 32 (0:UInt8)).length=32:=by simp
 have ez:zEnvC=envC 0 0 (List.replicate 32 0) (List.replicate 32 0) 0 0 (.slice none 0 0):=rfl
 rw [ez] at H
 have elen:=fun (f t:Int) (p q:Int) (s:Value)=>envC_len (f:=f) (t:=t) (p:=p) (q:=q) (sl:=s) hz32 hz32
 obtain ⟨A1,c1,hA1,hc1,s0⟩:=number_s (w0:=w0) b9 l A m c 1 hm hc (by omega) (by omega) hA
 have ef:ofHigh (l.take 1)=reF l:=rfl
 rw [ef] at s0
 obtain ⟨A2,c2,hA2,hc2,s1⟩:=number_s (w0:=w0) b9 (l.drop 1) A1 (m-1) c1 1 (by simp;omega) hc1 (by omega) (by omega) hA1
 have et:ofHigh ((l.drop 1).take 1)=reT l:=rfl
 rw [et] at s1
 rw [List.drop_drop] at hA2
 have hA2:SlAt w0 A2 (bys (l.drop 2)):=hA2
 obtain ⟨A3,c3,hA3,hc3,s2⟩:=key_s (w0:=w0) b9 (l.drop 2) A2 (m-1-1) c2 (by simp;omega) hc2 (by omega) hA2
 have ec:(l.drop 2).take 32=reC l:=rfl
 have lcm:(reC l).length=32:=by rw [← ec];simp;omega
 rw [ec] at s2
 rw [List.drop_drop] at hA3
 have hA3:SlAt w0 A3 (bys (l.drop 34)):=hA3
 have elen2:=fun (f t:Int) (p q:Int) (s:Value)=>envC_len (f:=f) (t:=t) (p:=p) (q:=q) (sl:=s) lcm hz32
 refine enter (n:=25) (R:=fun e M=>e=.panicked (chOf 3)∧∀ w',St [] w0 M w'→∃ x,St [] w0 (x1::rxL b5 b9 b4 x2 x) w') [vP b5 0,vP b4 0] F34 rfl rfl rfl H ?_ (fun e w' L' h H=>⟨h.1,h.2 w' H⟩)
 refine VC_seq<|VC_region<|vl_v (q_load 0 U91 rfl rfl rfl rfl) rfl<|l_callE F35 rfl rfl rfl (fun w1 H1=>(s0 _ w1 (H1.perm (List.Perm.swap _ _ _))).mono fun e w' h=>⟨h.1,h.2.perm (List.Perm.swap _ _ _)⟩) rfl ?_
 refine vl_v (q_fldA fo37_0 (by decide) rfl rfl) rfl<|l_store1 2 rfl rfl rfl sz3 rfl (by decide) ?_
 simp only [List.set_cons_zero,List.set_cons_succ]
 refine vl_nil<|th_n<|VC_seq ?_
 rw [envC_set0]
 refine VC_region<|vl_v (q_load 0 U91 rfl rfl rfl rfl) rfl<|l_callE F35 rfl rfl rfl (fun w1 H1=>(s1 _ w1 (H1.perm (List.Perm.swap _ _ _))).mono fun e w' h=>⟨h.1,h.2.perm (List.Perm.swap _ _ _)⟩) rfl ?_
 refine vl_v (q_fldA fo37_1 (by decide) rfl rfl) rfl ?_
 refine l_store1 2 rfl rfl rfl sz3 rfl (by simp only [envC_len, *]<;>omega) ?_
 simp only [List.set_cons_zero,List.set_cons_succ]
 refine vl_nil<|th_n<|VC_seq ?_
 rw [envC_set1]
 refine VC_region<|vl_v (q_load 0 U91 rfl rfl rfl rfl) rfl<|l_callE F36 rfl rfl rfl (fun w1 H1=>(s2 _ w1 (H1.perm (List.Perm.swap _ _ _))).mono fun e w' h=>⟨h.1,h.2.perm (List.Perm.swap _ _ _)⟩) rfl ?_
 refine vl_v (q_fldA fo37_2 (by decide) rfl rfl) rfl ?_
 refine l_storeG 2 rfl rfl rfl sz33 (by simp only [bys_length];omega) (by with_reducible first | exact bys_one _ | exact u32s_one _ | exact u64s_one _ | exact i64s_one _ | exact n64s_one _ | assumption) (by simp only [envC_len, *]<;>omega) ?_
 simp only [List.set_cons_zero,List.set_cons_succ]
 refine vl_nil<|th_n<|VC_seq ?_
 rw [envC_spl2 hz32 lcm]
 refine VC_region<|vl_v (q_load 0 U91 rfl rfl rfl rfl) rfl ?_
 refine l_callXx F37 rfl rfl rfl (fun w1 H1=>(head_bad b9 (l.drop 34) A3 (m-1-1-32) c3 (by simp;omega) hc3 (by omega) hA3 w1 (H1.perm (List.Perm.swap _ _ _))).mono fun e w' ⟨g1,v,g2⟩=>⟨g1,v,g2.perm (List.Perm.swap _ _ _)⟩) ?_
 intro ix
 exact th_p<|⟨rfl,fun w' H=>⟨(_,_),H.pick (ks:=[3,0,1,2,4]) (by decide) rfl⟩⟩
theorem renv_b4 {w0:World} (b5 b9 b4:Nat) (x1 x2:Res) (l:List UInt8) (A:Option Addr) (m c:Nat) (hm:m=l.length) (hc:m≤c) (h2:74≤m) (hn:m<76) (hA:SlAt w0 A (bys l)) (w:World) (H:St [] w0 [.blk b5 91 [vP b9 0],.blk b9 93 [.slice A m c],.blk b4 37 zEnvC,x1,x2] w) :
 Calls Tryz.prog 34 #[vP b5 0,vP b4 0] w fun e w'=>e=gaveUp (some 3)∧∃ x,St [] w0 (x1::rxL b5 b9 b4 x2 x) w':=by
 have hz32:(List.replicate 32 (0:UInt8)).length=32:=by simp
 have ez:zEnvC=envC 0 0 (List.replicate 32 0) (List.replicate 32 0) 0 0 (.slice none 0 0):=rfl
 rw [ez] at H
 have elen:=fun (f t:Int) (p q:Int) (s:Value)=>envC_len (f:=f) (t:=t) (p:=p) (q:=q) (sl:=s) hz32 hz32
 obtain ⟨A1,c1,hA1,hc1,s0⟩:=number_s (w0:=w0) b9 l A m c 1 hm hc (by omega) (by omega) hA
 have ef:ofHigh (l.take 1)=reF l:=rfl
 rw [ef] at s0
 obtain ⟨A2,c2,hA2,hc2,s1⟩:=number_s (w0:=w0) b9 (l.drop 1) A1 (m-1) c1 1 (by simp;omega) hc1 (by omega) (by omega) hA1
 have et:ofHigh ((l.drop 1).take 1)=reT l:=rfl
 rw [et] at s1
 rw [List.drop_drop] at hA2
 have hA2:SlAt w0 A2 (bys (l.drop 2)):=hA2
 obtain ⟨A3,c3,hA3,hc3,s2⟩:=key_s (w0:=w0) b9 (l.drop 2) A2 (m-1-1) c2 (by simp;omega) hc2 (by omega) hA2
 have ec:(l.drop 2).take 32=reC l:=rfl
 have lcm:(reC l).length=32:=by rw [← ec];simp;omega
 rw [ec] at s2
 rw [List.drop_drop] at hA3
 have hA3:SlAt w0 A3 (bys (l.drop 34)):=hA3
 have elen2:=fun (f t:Int) (p q:Int) (s:Value)=>envC_len (f:=f) (t:=t) (p:=p) (q:=q) (sl:=s) lcm hz32
 obtain ⟨A4,c4,hA4,hc4,s3⟩:=head_s (w0:=w0) b9 (l.drop 34) A3 (m-1-1-32) c3 (by simp;omega) hc3 (by omega) hA3
 have lpub:(rdP (l.drop 34)).length=32:=by rw [rdP];simp;omega
 have lh:=headC_length lpub (rdM (l.drop 34)) (rdN (l.drop 34))
 have oh:∀ u∈headC (rdP (l.drop 34)) (rdM (l.drop 34)) (rdN (l.drop 34)),u.oneCell'=true:=app_one (bys_one _) (one_all rfl)
 rw [List.drop_drop] at hA4
 have hA4:SlAt w0 A4 (bys (l.drop 74)):=hA4
 have elen3:=fun (f t:Int) (p q:Int) (s:Value)=>envC_len (f:=f) (t:=t) (p:=p) (q:=q) (sl:=s) lcm lpub
 refine enter (n:=25) (R:=fun e M=>e=.panicked (chOf 3)∧∀ w',St [] w0 M w'→∃ x,St [] w0 (x1::rxL b5 b9 b4 x2 x) w') [vP b5 0,vP b4 0] F34 rfl rfl rfl H ?_ (fun e w' L' h H=>⟨h.1,h.2 w' H⟩)
 refine VC_seq<|VC_region<|vl_v (q_load 0 U91 rfl rfl rfl rfl) rfl<|l_callE F35 rfl rfl rfl (fun w1 H1=>(s0 _ w1 (H1.perm (List.Perm.swap _ _ _))).mono fun e w' h=>⟨h.1,h.2.perm (List.Perm.swap _ _ _)⟩) rfl ?_
 refine vl_v (q_fldA fo37_0 (by decide) rfl rfl) rfl<|l_store1 2 rfl rfl rfl sz3 rfl (by decide) ?_
 simp only [List.set_cons_zero,List.set_cons_succ]
 refine vl_nil<|th_n<|VC_seq ?_
 rw [envC_set0]
 refine VC_region<|vl_v (q_load 0 U91 rfl rfl rfl rfl) rfl<|l_callE F35 rfl rfl rfl (fun w1 H1=>(s1 _ w1 (H1.perm (List.Perm.swap _ _ _))).mono fun e w' h=>⟨h.1,h.2.perm (List.Perm.swap _ _ _)⟩) rfl ?_
 refine vl_v (q_fldA fo37_1 (by decide) rfl rfl) rfl ?_
 refine l_store1 2 rfl rfl rfl sz3 rfl (by simp only [envC_len, *]<;>omega) ?_
 simp only [List.set_cons_zero,List.set_cons_succ]
 refine vl_nil<|th_n<|VC_seq ?_
 rw [envC_set1]
 refine VC_region<|vl_v (q_load 0 U91 rfl rfl rfl rfl) rfl<|l_callE F36 rfl rfl rfl (fun w1 H1=>(s2 _ w1 (H1.perm (List.Perm.swap _ _ _))).mono fun e w' h=>⟨h.1,h.2.perm (List.Perm.swap _ _ _)⟩) rfl ?_
 refine vl_v (q_fldA fo37_2 (by decide) rfl rfl) rfl ?_
 refine l_storeG 2 rfl rfl rfl sz33 (by simp only [bys_length];omega) (by with_reducible first | exact bys_one _ | exact u32s_one _ | exact u64s_one _ | exact i64s_one _ | exact n64s_one _ | assumption) (by simp only [envC_len, *]<;>omega) ?_
 simp only [List.set_cons_zero,List.set_cons_succ]
 refine vl_nil<|th_n<|VC_seq ?_
 rw [envC_spl2 hz32 lcm]
 refine VC_region<|vl_v (q_load 0 U91 rfl rfl rfl rfl) rfl<|l_callE F37 rfl rfl rfl (fun w1 H1=>(s3 _ w1 (H1.perm (List.Perm.swap _ _ _))).mono fun e w' h=>⟨h.1,h.2.perm (List.Perm.swap _ _ _)⟩) rfl ?_
 refine vl_v (q_fldA fo37_3 (by decide) rfl rfl) rfl ?_
 refine l_storeG 2 rfl rfl rfl sz35 (by assumption) (by with_reducible first | exact bys_one _ | exact u32s_one _ | exact u64s_one _ | exact i64s_one _ | exact n64s_one _ | assumption) (by simp only [envC_len, *]<;>omega) ?_
 simp only [List.set_cons_zero,List.set_cons_succ]
 refine vl_nil<|th_n<|VC_seq ?_
 rw [envC_spl34 lcm hz32 lpub]
 refine VC_drawQ 5 5 [[],[],[],[2],[1,3],[0,4],[0,1,2,3,4,5],[6,5,0,1,2,3,4]] [[],[],[],[2],[1,2,3],[0,1,2,3,4],[0,1,2,3,4,5],[0,1,2,3,4,5,6]] [([],[],[],[0,2,3,4],[]),([],[],[],[0,2,3,4],[]),([],[],[],[0,1,2,3,4],[]),([2],[1],[],[0,2,3,4],[2]),([1,2,3],[],[3],[0,2,3,4],[1,2])] [0,2,3,4] [0,1,2,4] rfl rfl (by kernel_rfl)<|qp_a (fun xs gs hx=>q_litA (cs:=bys []) U22 in5 (by decide) rfl rfl rfl rfl (by exact one_all rfl) rfl)<|qp_v (fun xs gs hx=>q_load 0 U91 rfl rfl rfl rfl)<|qp_v (fun xs gs hx=>q_load 0 U91 rfl rfl rfl rfl)<|qp_callX F35 rfl rfl (args:=fun xs gs=>[vP b9 0,vN 2]) (fun xs gs hx=>rfl) (fun xs gs hx R w1 H1=>(number_bad b9 A4 (m-1-1-32-40) c4 2 (by omega) w1 H1).mono fun e w' h=>⟨h.1,_,h.2,fun _=>And.intro rfl fun w' H=>⟨(_,_),H.pick (ks:=[3,1,0,2,4]) (by decide) rfl⟩⟩)<|qp_dead (fun xs gs hx=>hx.2.1 rfl)<|qp_end<|fun xs gs hx=>?_
 obtain ⟨⟨b14,e14⟩,f17,f18,_⟩:=hx
 exact f17.elim
theorem renv_b5 {w0:World} (b5 b9 b4:Nat) (x1 x2:Res) (l:List UInt8) (A:Option Addr) (m c:Nat) (hm:m=l.length) (hc:m≤c) (h2:76≤m) (hn:m<76+reN l) (hA:SlAt w0 A (bys l)) (w:World) (H:St [] w0 [.blk b5 91 [vP b9 0],.blk b9 93 [.slice A m c],.blk b4 37 zEnvC,x1,x2] w) :
 Calls Tryz.prog 34 #[vP b5 0,vP b4 0] w fun e w'=>e=gaveUp (some 3)∧∃ x,St [] w0 (x1::rxL b5 b9 b4 x2 x) w':=by
 have hz32:(List.replicate 32 (0:UInt8)).length=32:=by simp
 have ez:zEnvC=envC 0 0 (List.replicate 32 0) (List.replicate 32 0) 0 0 (.slice none 0 0):=rfl
 rw [ez] at H
 have elen:=fun (f t:Int) (p q:Int) (s:Value)=>envC_len (f:=f) (t:=t) (p:=p) (q:=q) (sl:=s) hz32 hz32
 obtain ⟨A1,c1,hA1,hc1,s0⟩:=number_s (w0:=w0) b9 l A m c 1 hm hc (by omega) (by omega) hA
 have ef:ofHigh (l.take 1)=reF l:=rfl
 rw [ef] at s0
 obtain ⟨A2,c2,hA2,hc2,s1⟩:=number_s (w0:=w0) b9 (l.drop 1) A1 (m-1) c1 1 (by simp;omega) hc1 (by omega) (by omega) hA1
 have et:ofHigh ((l.drop 1).take 1)=reT l:=rfl
 rw [et] at s1
 rw [List.drop_drop] at hA2
 have hA2:SlAt w0 A2 (bys (l.drop 2)):=hA2
 obtain ⟨A3,c3,hA3,hc3,s2⟩:=key_s (w0:=w0) b9 (l.drop 2) A2 (m-1-1) c2 (by simp;omega) hc2 (by omega) hA2
 have ec:(l.drop 2).take 32=reC l:=rfl
 have lcm:(reC l).length=32:=by rw [← ec];simp;omega
 rw [ec] at s2
 rw [List.drop_drop] at hA3
 have hA3:SlAt w0 A3 (bys (l.drop 34)):=hA3
 have elen2:=fun (f t:Int) (p q:Int) (s:Value)=>envC_len (f:=f) (t:=t) (p:=p) (q:=q) (sl:=s) lcm hz32
 obtain ⟨A4,c4,hA4,hc4,s3⟩:=head_s (w0:=w0) b9 (l.drop 34) A3 (m-1-1-32) c3 (by simp;omega) hc3 (by omega) hA3
 have lpub:(rdP (l.drop 34)).length=32:=by rw [rdP];simp;omega
 have lh:=headC_length lpub (rdM (l.drop 34)) (rdN (l.drop 34))
 have oh:∀ u∈headC (rdP (l.drop 34)) (rdM (l.drop 34)) (rdN (l.drop 34)),u.oneCell'=true:=app_one (bys_one _) (one_all rfl)
 rw [List.drop_drop] at hA4
 have hA4:SlAt w0 A4 (bys (l.drop 74)):=hA4
 have elen3:=fun (f t:Int) (p q:Int) (s:Value)=>envC_len (f:=f) (t:=t) (p:=p) (q:=q) (sl:=s) lcm lpub
 obtain ⟨A5,c5,hA5,hc5,s4⟩:=number_s (w0:=w0) b9 (l.drop 74) A4 (m-1-1-32-40) c4 2 (by simp;omega) hc4 (by omega) (by omega) hA4
 have en:ofHigh ((l.drop 74).take 2)=reN l:=rfl
 rw [en] at s4
 rw [List.drop_drop] at hA5
 have hA5:SlAt w0 A5 (bys (l.drop 76)):=hA5
 have nlt:=reN_lt l
 refine enter (n:=25) (R:=fun e M=>e=.panicked (chOf 3)∧∀ w',St [] w0 M w'→∃ x,St [] w0 (x1::rxL b5 b9 b4 x2 x) w') [vP b5 0,vP b4 0] F34 rfl rfl rfl H ?_ (fun e w' L' h H=>⟨h.1,h.2 w' H⟩)
 refine VC_seq<|VC_region<|vl_v (q_load 0 U91 rfl rfl rfl rfl) rfl<|l_callE F35 rfl rfl rfl (fun w1 H1=>(s0 _ w1 (H1.perm (List.Perm.swap _ _ _))).mono fun e w' h=>⟨h.1,h.2.perm (List.Perm.swap _ _ _)⟩) rfl ?_
 refine vl_v (q_fldA fo37_0 (by decide) rfl rfl) rfl<|l_store1 2 rfl rfl rfl sz3 rfl (by decide) ?_
 simp only [List.set_cons_zero,List.set_cons_succ]
 refine vl_nil<|th_n<|VC_seq ?_
 rw [envC_set0]
 refine VC_region<|vl_v (q_load 0 U91 rfl rfl rfl rfl) rfl<|l_callE F35 rfl rfl rfl (fun w1 H1=>(s1 _ w1 (H1.perm (List.Perm.swap _ _ _))).mono fun e w' h=>⟨h.1,h.2.perm (List.Perm.swap _ _ _)⟩) rfl ?_
 refine vl_v (q_fldA fo37_1 (by decide) rfl rfl) rfl ?_
 refine l_store1 2 rfl rfl rfl sz3 rfl (by simp only [envC_len, *]<;>omega) ?_
 simp only [List.set_cons_zero,List.set_cons_succ]
 refine vl_nil<|th_n<|VC_seq ?_
 rw [envC_set1]
 refine VC_region<|vl_v (q_load 0 U91 rfl rfl rfl rfl) rfl<|l_callE F36 rfl rfl rfl (fun w1 H1=>(s2 _ w1 (H1.perm (List.Perm.swap _ _ _))).mono fun e w' h=>⟨h.1,h.2.perm (List.Perm.swap _ _ _)⟩) rfl ?_
 refine vl_v (q_fldA fo37_2 (by decide) rfl rfl) rfl ?_
 refine l_storeG 2 rfl rfl rfl sz33 (by simp only [bys_length];omega) (by with_reducible first | exact bys_one _ | exact u32s_one _ | exact u64s_one _ | exact i64s_one _ | exact n64s_one _ | assumption) (by simp only [envC_len, *]<;>omega) ?_
 simp only [List.set_cons_zero,List.set_cons_succ]
 refine vl_nil<|th_n<|VC_seq ?_
 rw [envC_spl2 hz32 lcm]
 refine VC_region<|vl_v (q_load 0 U91 rfl rfl rfl rfl) rfl<|l_callE F37 rfl rfl rfl (fun w1 H1=>(s3 _ w1 (H1.perm (List.Perm.swap _ _ _))).mono fun e w' h=>⟨h.1,h.2.perm (List.Perm.swap _ _ _)⟩) rfl ?_
 refine vl_v (q_fldA fo37_3 (by decide) rfl rfl) rfl ?_
 refine l_storeG 2 rfl rfl rfl sz35 (by assumption) (by with_reducible first | exact bys_one _ | exact u32s_one _ | exact u64s_one _ | exact i64s_one _ | exact n64s_one _ | assumption) (by simp only [envC_len, *]<;>omega) ?_
 simp only [List.set_cons_zero,List.set_cons_succ]
 refine vl_nil<|th_n<|VC_seq ?_
 rw [envC_spl34 lcm hz32 lpub]
 refine VC_drawQ 5 5 [[],[],[],[2],[1,3],[0,4],[0,1,2,3,4,5],[6,5,0,1,2,3,4]] [[],[],[],[2],[1,2,3],[0,1,2,3,4],[0,1,2,3,4,5],[0,1,2,3,4,5,6]] [([],[],[],[0,2,3,4],[]),([],[],[],[0,2,3,4],[]),([],[],[],[0,1,2,3,4],[]),([2],[1],[],[0,2,3,4],[2]),([1,2,3],[],[3],[0,2,3,4],[1,2])] [0,2,3,4] [0,1,2,4] rfl rfl (by kernel_rfl)<|qp_a (fun xs gs hx=>q_litA (cs:=bys []) U22 in5 (by decide) rfl rfl rfl rfl (by exact one_all rfl) rfl)<|qp_v (fun xs gs hx=>q_load 0 U91 rfl rfl rfl rfl)<|qp_v (fun xs gs hx=>q_load 0 U91 rfl rfl rfl rfl)<|qp_callE (fun xs gs v _=>v=vN (reN l)) (fun xs gs v _=>[.blk b9 93 [.slice A5 (m-1-1-32-40-2) c5]]) F35 rfl rfl (args:=fun xs gs=>[vP b9 0,vN 2]) (fun xs gs hx=>rfl) (fun xs gs hx R w1 H1=>(s4 _ w1 H1).mono fun e w' h=>⟨_,undef,h.1,(by intro h;cases h),rfl,h.2⟩)<|qp_callX F38 rfl rfl (args:=fun xs gs=>[vP b9 0,vN (reN l)]) (fun xs gs hx=>congrArg (fun v=>some [vP b9 0,v]) (hx.2.1 rfl)) (fun xs gs hx R w1 H1=>(take_bad b9 A5 (m-1-1-32-40-2) c5 (reN l) (by omega) w1 H1).mono fun e w' h=>⟨h.1,_,h.2,fun _=>And.intro rfl fun w' H=>⟨(_,_),H.pick (ks:=[3,1,0,2,4]) (by decide) rfl⟩⟩)<|qp_end<|fun xs gs hx=>?_
 obtain ⟨⟨b14,e14⟩,f17,f18,_⟩:=hx
 exact f18.elim
theorem renv_form {w0:World} (b5 b9 b4:Nat) (x1 x2:Res) (l:List UInt8) (A:Option Addr) (m c:Nat) (hm:m=l.length) (hc:m≤c) (h2:76+reN l≤m) (hr:reR l (reN l)=false∨76+reN l<m) (hA:SlAt w0 A (bys l)) (w:World) (H:St [] w0 [.blk b5 91 [vP b9 0],.blk b9 93 [.slice A m c],.blk b4 37 zEnvC,x1,x2] w) :
 Calls Tryz.prog 34 #[vP b5 0,vP b4 0] w fun e w'=>e=gaveUp (some 2)∧∃ x,St [] w0 (x1::rxL b5 b9 b4 x2 x) w':=by
 have hz32:(List.replicate 32 (0:UInt8)).length=32:=by simp
 have ez:zEnvC=envC 0 0 (List.replicate 32 0) (List.replicate 32 0) 0 0 (.slice none 0 0):=rfl
 rw [ez] at H
 have elen:=fun (f t:Int) (p q:Int) (s:Value)=>envC_len (f:=f) (t:=t) (p:=p) (q:=q) (sl:=s) hz32 hz32
 obtain ⟨A1,c1,hA1,hc1,s0⟩:=number_s (w0:=w0) b9 l A m c 1 hm hc (by omega) (by omega) hA
 have ef:ofHigh (l.take 1)=reF l:=rfl
 rw [ef] at s0
 obtain ⟨A2,c2,hA2,hc2,s1⟩:=number_s (w0:=w0) b9 (l.drop 1) A1 (m-1) c1 1 (by simp;omega) hc1 (by omega) (by omega) hA1
 have et:ofHigh ((l.drop 1).take 1)=reT l:=rfl
 rw [et] at s1
 rw [List.drop_drop] at hA2
 have hA2:SlAt w0 A2 (bys (l.drop 2)):=hA2
 obtain ⟨A3,c3,hA3,hc3,s2⟩:=key_s (w0:=w0) b9 (l.drop 2) A2 (m-1-1) c2 (by simp;omega) hc2 (by omega) hA2
 have ec:(l.drop 2).take 32=reC l:=rfl
 have lcm:(reC l).length=32:=by rw [← ec];simp;omega
 rw [ec] at s2
 rw [List.drop_drop] at hA3
 have hA3:SlAt w0 A3 (bys (l.drop 34)):=hA3
 have elen2:=fun (f t:Int) (p q:Int) (s:Value)=>envC_len (f:=f) (t:=t) (p:=p) (q:=q) (sl:=s) lcm hz32
 obtain ⟨A4,c4,hA4,hc4,s3⟩:=head_s (w0:=w0) b9 (l.drop 34) A3 (m-1-1-32) c3 (by simp;omega) hc3 (by omega) hA3
 have lpub:(rdP (l.drop 34)).length=32:=by rw [rdP];simp;omega
 have lh:=headC_length lpub (rdM (l.drop 34)) (rdN (l.drop 34))
 have oh:∀ u∈headC (rdP (l.drop 34)) (rdM (l.drop 34)) (rdN (l.drop 34)),u.oneCell'=true:=app_one (bys_one _) (one_all rfl)
 rw [List.drop_drop] at hA4
 have hA4:SlAt w0 A4 (bys (l.drop 74)):=hA4
 have elen3:=fun (f t:Int) (p q:Int) (s:Value)=>envC_len (f:=f) (t:=t) (p:=p) (q:=q) (sl:=s) lcm lpub
 obtain ⟨A5,c5,hA5,hc5,s4⟩:=number_s (w0:=w0) b9 (l.drop 74) A4 (m-1-1-32-40) c4 2 (by simp;omega) hc4 (by omega) (by omega) hA4
 have en:ofHigh ((l.drop 74).take 2)=reN l:=rfl
 rw [en] at s4
 rw [List.drop_drop] at hA5
 have hA5:SlAt w0 A5 (bys (l.drop 76)):=hA5
 obtain ⟨A6,c6,hA6,hc6,s5⟩:=take_s (w0:=w0) b9 (l.drop 76) A5 (m-1-1-32-40-2) c5 (reN l) (by simp;omega) hc5 (by omega) hA5
 have hbod:=at_take (n:=reN l) hA5
 have lbod:((l.drop 76).take (reN l)).length=reN l:=by simp;omega
 have nlt:=reN_lt l
 obtain ⟨r,hr0⟩:∃ r,reR l (reN l)=r:=⟨_,rfl⟩
 have hright:=fun (B:Option Addr) (cB:Nat)=>hrightE_calls (reF l) (reT l) (reC l) (rdP (l.drop 34)) (rdM (l.drop 34)) (rdN (l.drop 34)) (reN l) cB B lcm lpub
 rw [show rightEB (reF l) (reT l) (rdM (l.drop 34)) (rdN (l.drop 34)) (reN l)=r from hr0] at hright
 have hlt:r=true→0<m-1-1-32-40-2-reN l:=by
  rintro rfl
  rcases hr with h | h
  ·exact absurd (hr0.symm.trans h) (by decide)
  ·omega
 have hmust:∀ (A:Option Addr) (c:Nat) (L:List Res) (w:World),St [] w0 (.blk b9 93 [.slice A (m-1-1-32-40-2-reN l) c]::L) w→Calls Tryz.prog 39 #[vP b9 0,.bool r] w fun e w'=>e=.panicked (chOf 2)∧St [] w0 (.blk b9 93 [.slice A (m-1-1-32-40-2-reN l) c]::L) w':=by
  intro A c L w H
  cases r with
  | false=>exact must_bad1 b9 A _ c w H
  | true=>exact must_bad2 b9 A _ c (hlt rfl) w H
 refine enter (n:=25) (R:=fun e M=>e=.panicked (chOf 2)∧∀ w',St [] w0 M w'→∃ x,St [] w0 (x1::rxL b5 b9 b4 x2 x) w') [vP b5 0,vP b4 0] F34 rfl rfl rfl H ?_ (fun e w' L' h H=>⟨h.1,h.2 w' H⟩)
 refine VC_seq<|VC_region<|vl_v (q_load 0 U91 rfl rfl rfl rfl) rfl<|l_callE F35 rfl rfl rfl (fun w1 H1=>(s0 _ w1 (H1.perm (List.Perm.swap _ _ _))).mono fun e w' h=>⟨h.1,h.2.perm (List.Perm.swap _ _ _)⟩) rfl ?_
 refine vl_v (q_fldA fo37_0 (by decide) rfl rfl) rfl<|l_store1 2 rfl rfl rfl sz3 rfl (by decide) ?_
 simp only [List.set_cons_zero,List.set_cons_succ]
 refine vl_nil<|th_n<|VC_seq ?_
 rw [envC_set0]
 refine VC_region<|vl_v (q_load 0 U91 rfl rfl rfl rfl) rfl<|l_callE F35 rfl rfl rfl (fun w1 H1=>(s1 _ w1 (H1.perm (List.Perm.swap _ _ _))).mono fun e w' h=>⟨h.1,h.2.perm (List.Perm.swap _ _ _)⟩) rfl ?_
 refine vl_v (q_fldA fo37_1 (by decide) rfl rfl) rfl ?_
 refine l_store1 2 rfl rfl rfl sz3 rfl (by simp only [envC_len, *]<;>omega) ?_
 simp only [List.set_cons_zero,List.set_cons_succ]
 refine vl_nil<|th_n<|VC_seq ?_
 rw [envC_set1]
 refine VC_region<|vl_v (q_load 0 U91 rfl rfl rfl rfl) rfl<|l_callE F36 rfl rfl rfl (fun w1 H1=>(s2 _ w1 (H1.perm (List.Perm.swap _ _ _))).mono fun e w' h=>⟨h.1,h.2.perm (List.Perm.swap _ _ _)⟩) rfl ?_
 refine vl_v (q_fldA fo37_2 (by decide) rfl rfl) rfl ?_
 refine l_storeG 2 rfl rfl rfl sz33 (by simp only [bys_length];omega) (by with_reducible first | exact bys_one _ | exact u32s_one _ | exact u64s_one _ | exact i64s_one _ | exact n64s_one _ | assumption) (by simp only [envC_len, *]<;>omega) ?_
 simp only [List.set_cons_zero,List.set_cons_succ]
 refine vl_nil<|th_n<|VC_seq ?_
 rw [envC_spl2 hz32 lcm]
 refine VC_region<|vl_v (q_load 0 U91 rfl rfl rfl rfl) rfl<|l_callE F37 rfl rfl rfl (fun w1 H1=>(s3 _ w1 (H1.perm (List.Perm.swap _ _ _))).mono fun e w' h=>⟨h.1,h.2.perm (List.Perm.swap _ _ _)⟩) rfl ?_
 refine vl_v (q_fldA fo37_3 (by decide) rfl rfl) rfl ?_
 refine l_storeG 2 rfl rfl rfl sz35 (by assumption) (by with_reducible first | exact bys_one _ | exact u32s_one _ | exact u64s_one _ | exact i64s_one _ | exact n64s_one _ | assumption) (by simp only [envC_len, *]<;>omega) ?_
 simp only [List.set_cons_zero,List.set_cons_succ]
 refine vl_nil<|th_n<|VC_seq ?_
 rw [envC_spl34 lcm hz32 lpub]
 refine VC_drawQ 5 5 [[],[],[],[2],[1,3],[0,4],[0,1,2,3,4,5],[6,5,0,1,2,3,4]] [[],[],[],[2],[1,2,3],[0,1,2,3,4],[0,1,2,3,4,5],[0,1,2,3,4,5,6]] [([],[],[],[0,2,3,4],[]),([],[],[],[0,2,3,4],[]),([],[],[],[0,1,2,3,4],[]),([2],[1],[],[0,2,3,4],[2]),([1,2,3],[],[3],[0,2,3,4],[1,2])] [0,2,3,4] [0,1,2,4] rfl rfl (by kernel_rfl)<|qp_a (fun xs gs hx=>q_litA (cs:=bys []) U22 in5 (by decide) rfl rfl rfl rfl (by exact one_all rfl) rfl)<|qp_v (fun xs gs hx=>q_load 0 U91 rfl rfl rfl rfl)<|qp_v (fun xs gs hx=>q_load 0 U91 rfl rfl rfl rfl)<|qp_callE (fun xs gs v _=>v=vN (reN l)) (fun xs gs v _=>[.blk b9 93 [.slice A5 (m-1-1-32-40-2) c5]]) F35 rfl rfl (args:=fun xs gs=>[vP b9 0,vN 2]) (fun xs gs hx=>rfl) (fun xs gs hx R w1 H1=>(s4 _ w1 H1).mono fun e w' h=>⟨_,undef,h.1,(by intro h;cases h),rfl,h.2⟩)<|qp_callE (fun xs gs v _=>v=.slice A5 (reN l) c5) (fun xs gs v _=>[.blk b9 93 [.slice A6 (m-1-1-32-40-2-reN l) c6]]) F38 rfl rfl (args:=fun xs gs=>[vP b9 0,vN (reN l)]) (fun xs gs hx=>congrArg (fun v=>some [vP b9 0,v]) (hx.2.1 rfl)) (fun xs gs hx R w1 H1=>(s5 _ w1 H1).mono fun e w' h=>⟨_,undef,h.1,(by intro h;cases h),rfl,h.2⟩)<|qp_end<|fun xs gs hx=>?_
 obtain ⟨⟨b14,e14⟩,f17,f18,_⟩:=hx
 simp only [selI,ownsA,List.contains_cons,List.contains_nil,Nat.reduceBEq,Nat.reduceAdd,Bool.or_false,Bool.or_true,Bool.false_or,Bool.true_or,mask,nRow,nBlk,nRowT,tupAt_0,tupAt_1,List.append_assoc,List.nil_append,List.append_nil,List.cons_append,List.singleton_append,e14]
 have f18:xs 4=.slice A5 (reN l) c5:=f18
 rw [f18]
 refine VL.keep (kp [0,1,14,18] rfl)<|l_append 4 rfl rfl rfl U22 U22 in5 rfl (by decide) (Reads.old hbod) (by simp only [bys_length];omega) (by with_reducible first | exact bys_one _ | exact u32s_one _ | exact u64s_one _ | exact i64s_one _ | exact n64s_one _ | assumption) (by omega) (by omega) rfl<|fun A19 c19 hc19=>?_
 simp only [List.set_cons_zero,List.set_cons_succ,← bys_append,← u32s_append,← u64s_append,← i64s_append,List.nil_append,Nat.zero_add]
 refine vl_v (q_fldA fo37_4 (by decide) rfl rfl) rfl ?_
 refine l_store1 1 rfl rfl rfl sz22 rfl (by simp only [envC_len, *]<;>omega) ?_
 simp only [List.set_cons_zero,List.set_cons_succ]
 refine vl_nil<|qn_n<|th_n ?_
 rw [envC_set68 lcm lpub]
 refine VC_drawV 3 [[],[],[1],[0,2]] [[],[],[1],[0,1,2]] rfl (by kernel_rfl)<|qv_v (q_load 0 U91 rfl rfl rfl rfl)<|qv_v (q_loads 1 U37 rfl rfl rfl sz37 (elen3 _ _ _ _ _))<|qv_v (q_callV F31 rfl rfl rfl (fun w1 H1=>hright _ _ w1))<|qv_end<|VL.keep (kp [0,1,21,23] rfl)<|l_callX F39 rfl rfl rfl (fun w1 H1=>hmust _ _ _ w1 (H1.pick (ks:=[5,0,1,2,3,4]) (by decide) rfl))<|(qn_p fun _=>?_)
 exact ⟨rfl,fun w' H=>⟨(_,_),H.pick (ks:=[3,1,0,2,4]) (by decide) rfl⟩⟩
theorem renv_ok12 {w0:World} (b5 b9 b4:Nat) (x1 x2:Res) (l:List UInt8) (A:Option Addr) (m c:Nat) (hm:m=l.length) (hc:m≤c) (h2:m=76+reN l) (hr0:reR l (reN l)=true) (hA:SlAt w0 A (bys l)) (w:World) (H:St [] w0 [.blk b5 91 [vP b9 0],.blk b9 93 [.slice A m c],.blk b4 37 zEnvC,x1,x2] w) :
 Calls Tryz.prog 34 #[vP b5 0,vP b4 0] w fun e w'=>e=gaveUp none∧∃ x,St [] w0 (x1::reL b5 b9 b4 x2 (reF l) (reT l) (reC l) (rdP (l.drop 34)) (rdM (l.drop 34)) (rdN (l.drop 34)) (reN l) ((l.drop 76).take (reN l)) x) w':=by
 have hz32:(List.replicate 32 (0:UInt8)).length=32:=by simp
 have ez:zEnvC=envC 0 0 (List.replicate 32 0) (List.replicate 32 0) 0 0 (.slice none 0 0):=rfl
 rw [ez] at H
 have elen:=fun (f t:Int) (p q:Int) (s:Value)=>envC_len (f:=f) (t:=t) (p:=p) (q:=q) (sl:=s) hz32 hz32
 obtain ⟨A1,c1,hA1,hc1,s0⟩:=number_s (w0:=w0) b9 l A m c 1 hm hc (by omega) (by omega) hA
 have ef:ofHigh (l.take 1)=reF l:=rfl
 rw [ef] at s0
 obtain ⟨A2,c2,hA2,hc2,s1⟩:=number_s (w0:=w0) b9 (l.drop 1) A1 (m-1) c1 1 (by simp;omega) hc1 (by omega) (by omega) hA1
 have et:ofHigh ((l.drop 1).take 1)=reT l:=rfl
 rw [et] at s1
 rw [List.drop_drop] at hA2
 have hA2:SlAt w0 A2 (bys (l.drop 2)):=hA2
 obtain ⟨A3,c3,hA3,hc3,s2⟩:=key_s (w0:=w0) b9 (l.drop 2) A2 (m-1-1) c2 (by simp;omega) hc2 (by omega) hA2
 have ec:(l.drop 2).take 32=reC l:=rfl
 have lcm:(reC l).length=32:=by rw [← ec];simp;omega
 rw [ec] at s2
 rw [List.drop_drop] at hA3
 have hA3:SlAt w0 A3 (bys (l.drop 34)):=hA3
 have elen2:=fun (f t:Int) (p q:Int) (s:Value)=>envC_len (f:=f) (t:=t) (p:=p) (q:=q) (sl:=s) lcm hz32
 obtain ⟨A4,c4,hA4,hc4,s3⟩:=head_s (w0:=w0) b9 (l.drop 34) A3 (m-1-1-32) c3 (by simp;omega) hc3 (by omega) hA3
 have lpub:(rdP (l.drop 34)).length=32:=by rw [rdP];simp;omega
 have lh:=headC_length lpub (rdM (l.drop 34)) (rdN (l.drop 34))
 have oh:∀ u∈headC (rdP (l.drop 34)) (rdM (l.drop 34)) (rdN (l.drop 34)),u.oneCell'=true:=app_one (bys_one _) (one_all rfl)
 rw [List.drop_drop] at hA4
 have hA4:SlAt w0 A4 (bys (l.drop 74)):=hA4
 have elen3:=fun (f t:Int) (p q:Int) (s:Value)=>envC_len (f:=f) (t:=t) (p:=p) (q:=q) (sl:=s) lcm lpub
 obtain ⟨A5,c5,hA5,hc5,s4⟩:=number_s (w0:=w0) b9 (l.drop 74) A4 (m-1-1-32-40) c4 2 (by simp;omega) hc4 (by omega) (by omega) hA4
 have en:ofHigh ((l.drop 74).take 2)=reN l:=rfl
 rw [en] at s4
 rw [List.drop_drop] at hA5
 have hA5:SlAt w0 A5 (bys (l.drop 76)):=hA5
 obtain ⟨A6,c6,hA6,hc6,s5⟩:=take_s (w0:=w0) b9 (l.drop 76) A5 (m-1-1-32-40-2) c5 (reN l) (by simp;omega) hc5 (by omega) hA5
 have hbod:=at_take (n:=reN l) hA5
 have lbod:((l.drop 76).take (reN l)).length=reN l:=by simp;omega
 have nlt:=reN_lt l
 have hright:=fun (B:Option Addr) (cB:Nat)=>hrightE_calls (reF l) (reT l) (reC l) (rdP (l.drop 34)) (rdM (l.drop 34)) (rdN (l.drop 34)) (reN l) cB B lcm lpub
 rw [show rightEB (reF l) (reT l) (rdM (l.drop 34)) (rdN (l.drop 34)) (reN l)=true from hr0] at hright
 refine enter (n:=25) (R:=fun e M=>e=.returned (.tuple #[])∧∀ w',St [] w0 M w'→∃ x,St [] w0 (x1::reL b5 b9 b4 x2 (reF l) (reT l) (reC l) (rdP (l.drop 34)) (rdM (l.drop 34)) (rdN (l.drop 34)) (reN l) ((l.drop 76).take (reN l)) x) w') [vP b5 0,vP b4 0] F34 rfl rfl rfl H ?_ (fun e w' L' h H=>⟨h.1,h.2 w' H⟩)
 refine VC_seq<|VC_region<|vl_v (q_load 0 U91 rfl rfl rfl rfl) rfl<|l_callE F35 rfl rfl rfl (fun w1 H1=>(s0 _ w1 (H1.perm (List.Perm.swap _ _ _))).mono fun e w' h=>⟨h.1,h.2.perm (List.Perm.swap _ _ _)⟩) rfl ?_
 refine vl_v (q_fldA fo37_0 (by decide) rfl rfl) rfl<|l_store1 2 rfl rfl rfl sz3 rfl (by decide) ?_
 simp only [List.set_cons_zero,List.set_cons_succ]
 refine vl_nil<|th_n<|VC_seq ?_
 rw [envC_set0]
 refine VC_region<|vl_v (q_load 0 U91 rfl rfl rfl rfl) rfl<|l_callE F35 rfl rfl rfl (fun w1 H1=>(s1 _ w1 (H1.perm (List.Perm.swap _ _ _))).mono fun e w' h=>⟨h.1,h.2.perm (List.Perm.swap _ _ _)⟩) rfl ?_
 refine vl_v (q_fldA fo37_1 (by decide) rfl rfl) rfl ?_
 refine l_store1 2 rfl rfl rfl sz3 rfl (by simp only [envC_len, *]<;>omega) ?_
 simp only [List.set_cons_zero,List.set_cons_succ]
 refine vl_nil<|th_n<|VC_seq ?_
 rw [envC_set1]
 refine VC_region<|vl_v (q_load 0 U91 rfl rfl rfl rfl) rfl<|l_callE F36 rfl rfl rfl (fun w1 H1=>(s2 _ w1 (H1.perm (List.Perm.swap _ _ _))).mono fun e w' h=>⟨h.1,h.2.perm (List.Perm.swap _ _ _)⟩) rfl ?_
 refine vl_v (q_fldA fo37_2 (by decide) rfl rfl) rfl ?_
 refine l_storeG 2 rfl rfl rfl sz33 (by simp only [bys_length];omega) (by with_reducible first | exact bys_one _ | exact u32s_one _ | exact u64s_one _ | exact i64s_one _ | exact n64s_one _ | assumption) (by simp only [envC_len, *]<;>omega) ?_
 simp only [List.set_cons_zero,List.set_cons_succ]
 refine vl_nil<|th_n<|VC_seq ?_
 rw [envC_spl2 hz32 lcm]
 refine VC_region<|vl_v (q_load 0 U91 rfl rfl rfl rfl) rfl<|l_callE F37 rfl rfl rfl (fun w1 H1=>(s3 _ w1 (H1.perm (List.Perm.swap _ _ _))).mono fun e w' h=>⟨h.1,h.2.perm (List.Perm.swap _ _ _)⟩) rfl ?_
 refine vl_v (q_fldA fo37_3 (by decide) rfl rfl) rfl ?_
 refine l_storeG 2 rfl rfl rfl sz35 (by assumption) (by with_reducible first | exact bys_one _ | exact u32s_one _ | exact u64s_one _ | exact i64s_one _ | exact n64s_one _ | assumption) (by simp only [envC_len, *]<;>omega) ?_
 simp only [List.set_cons_zero,List.set_cons_succ]
 refine vl_nil<|th_n<|VC_seq ?_
 rw [envC_spl34 lcm hz32 lpub]
 refine VC_drawQ 5 5 [[],[],[],[2],[1,3],[0,4],[0,1,2,3,4,5],[6,5,0,1,2,3,4]] [[],[],[],[2],[1,2,3],[0,1,2,3,4],[0,1,2,3,4,5],[0,1,2,3,4,5,6]] [([],[],[],[0,2,3,4],[]),([],[],[],[0,2,3,4],[]),([],[],[],[0,1,2,3,4],[]),([2],[1],[],[0,2,3,4],[2]),([1,2,3],[],[3],[0,2,3,4],[1,2])] [0,2,3,4] [0,1,2,4] rfl rfl (by kernel_rfl)<|qp_a (fun xs gs hx=>q_litA (cs:=bys []) U22 in5 (by decide) rfl rfl rfl rfl (by exact one_all rfl) rfl)<|qp_v (fun xs gs hx=>q_load 0 U91 rfl rfl rfl rfl)<|qp_v (fun xs gs hx=>q_load 0 U91 rfl rfl rfl rfl)<|qp_callE (fun xs gs v _=>v=vN (reN l)) (fun xs gs v _=>[.blk b9 93 [.slice A5 (m-1-1-32-40-2) c5]]) F35 rfl rfl (args:=fun xs gs=>[vP b9 0,vN 2]) (fun xs gs hx=>rfl) (fun xs gs hx R w1 H1=>(s4 _ w1 H1).mono fun e w' h=>⟨_,undef,h.1,(by intro h;cases h),rfl,h.2⟩)<|qp_callE (fun xs gs v _=>v=.slice A5 (reN l) c5) (fun xs gs v _=>[.blk b9 93 [.slice A6 (m-1-1-32-40-2-reN l) c6]]) F38 rfl rfl (args:=fun xs gs=>[vP b9 0,vN (reN l)]) (fun xs gs hx=>congrArg (fun v=>some [vP b9 0,v]) (hx.2.1 rfl)) (fun xs gs hx R w1 H1=>(s5 _ w1 H1).mono fun e w' h=>⟨_,undef,h.1,(by intro h;cases h),rfl,h.2⟩)<|qp_end<|fun xs gs hx=>?_
 obtain ⟨⟨b14,e14⟩,f17,f18,_⟩:=hx
 simp only [selI,ownsA,List.contains_cons,List.contains_nil,Nat.reduceBEq,Nat.reduceAdd,Bool.or_false,Bool.or_true,Bool.false_or,Bool.true_or,mask,nRow,nBlk,nRowT,tupAt_0,tupAt_1,List.append_assoc,List.nil_append,List.append_nil,List.cons_append,List.singleton_append,e14]
 have f18:xs 4=.slice A5 (reN l) c5:=f18
 rw [f18]
 refine VL.keep (kp [0,1,14,18] rfl)<|l_append 4 rfl rfl rfl U22 U22 in5 rfl (by decide) (Reads.old hbod) (by simp only [bys_length];omega) (by with_reducible first | exact bys_one _ | exact u32s_one _ | exact u64s_one _ | exact i64s_one _ | exact n64s_one _ | assumption) (by omega) (by omega) rfl<|fun A19 c19 hc19=>?_
 simp only [List.set_cons_zero,List.set_cons_succ,← bys_append,← u32s_append,← u64s_append,← i64s_append,List.nil_append,Nat.zero_add]
 refine vl_v (q_fldA fo37_4 (by decide) rfl rfl) rfl ?_
 refine l_store1 1 rfl rfl rfl sz22 rfl (by simp only [envC_len, *]<;>omega) ?_
 simp only [List.set_cons_zero,List.set_cons_succ]
 refine vl_nil<|qn_n<|th_n ?_
 rw [envC_set68 lcm lpub]
 refine VC_drawV 3 [[],[],[1],[0,2]] [[],[],[1],[0,1,2]] rfl (by kernel_rfl)<|qv_v (q_load 0 U91 rfl rfl rfl rfl)<|qv_v (q_loads 1 U37 rfl rfl rfl sz37 (elen3 _ _ _ _ _))<|qv_v (q_callV F31 rfl rfl rfl (fun w1 H1=>hright _ _ w1))<|qv_end<|VL.keep (kp [0,1,21,23] rfl)<|l_callE F39 rfl rfl rfl (fun w1 H1=>must_ok b9 A6 _ c6 (by omega) w1 (H1.pick (ks:=[5,0,1,2,3,4]) (by decide) rfl)) rfl<|vl_nil<|qn_n<|⟨_,res0 rfl,?_⟩
 exact ⟨rfl,fun w' H=>⟨(_,_,_),H.pick (ks:=[3,5,1,0,2,4]) (by decide) rfl⟩⟩
end Go.Proofs.YtfpdnpppcoomnaaGreat
namespace Go.PBYtfpdnpppcoomnaaGreat
open Go Go.RowKit Go.ChangeShapes Go.WideShapes Go.ChangeAt
structure EnvD where
 f:Int
 t:Int
 cm:List UInt8
 pub:List UInt8
 p:Int
 q:Int
 body:List UInt8
end Go.PBYtfpdnpppcoomnaaGreat
namespace Go.Proofs.YtfpdnpppcoomnaaGreat
open Go.RowKit Go.PBYtfpdnpppcoomnaaGreat
theorem laid12:laidOutB Tryz.prog=true:=by kernel_rfl
theorem flatHead:Flat Tryz.prog 35 (List.replicate 32 .u8++[.i64,.i64]) :=
 flat_of (m:=6) laid12 (by omega) (of_decide_eq_true (by kernel_rfl)) (by kernel_rfl) (by kernel_rfl) (by kernel_rfl) (by kernel_rfl) (by kernel_rfl) (by kernel_rfl)
theorem flat32d:Flat Tryz.prog 33 (List.replicate 32 .u8) :=
 flat_of (m:=3) laid12 (by omega) (of_decide_eq_true (by kernel_rfl)) (by kernel_rfl) (by kernel_rfl) (by kernel_rfl) (by kernel_rfl) (by kernel_rfl) (by kernel_rfl)
theorem wf_small (x:Nat) (h:x<4294967296):(Lit.int .i64 (x:Int)).wf=true:=by
 simp only [Lit.wf,Bool.and_eq_true,decide_eq_true_eq]
 have h2:IntKind.i64.min = -9223372036854775808:=rfl
 have h3:IntKind.i64.max=9223372036854775807:=rfl
 rw [h2,h3]
 omega
theorem headC_fits {pub:List UInt8} (hp:pub.length=32) {p q:Int} (h1:(Lit.int .i64 p).wf=true) (h2:(Lit.int .i64 q).wf=true):Fits (headC pub p q) (List.replicate 32 .u8++[.i64,.i64]) :=
 (fits_bys' hp).append ((fits_int h1).append (fits_int h2))
end Go.Proofs.YtfpdnpppcoomnaaGreat
namespace Go.PBYtfpdnpppcoomnaaGreat
open Go Go.RowKit
def zEnvD:EnvD:=⟨0,0,List.replicate 32 0,List.replicate 32 0,0,0,[]⟩
def reX1 (l:List UInt8):EnvD:=⟨reF l,reT l,reC l,rdP (l.drop 34),rdM (l.drop 34),rdN (l.drop 34),(l.drop 76).take (reN l)⟩
def reX (l:List UInt8):EnvD:=if reE l=0 then reX1 l else zEnvD
abbrev envOf (X:EnvD) (x:Option Addr × Nat):List Value:=envC X.f X.t X.cm X.pub X.p X.q (.slice x.1 X.body.length x.2)
end Go.PBYtfpdnpppcoomnaaGreat
namespace Go.Proofs.YtfpdnpppcoomnaaGreat
open Go.RowKit Go.PBYtfpdnpppcoomnaaGreat
theorem zEnvC_eq:[Value.int .i64 0]++[Value.int .i64 0]++bys (List.replicate 32 0)++bys (List.replicate 32 0)++[Value.int .i64 0]++[Value.int .i64 0]++[Value.slice none 0 0]=zEnvC:=by
 simp [zEnvC,envC,headC,List.append_assoc]
def re1Ok (w0:World) (A:Option Addr) (m c:Nat) (f t:Int) (cm pub:List UInt8) (p q:Int) (n:Nat) (body:List UInt8):Prop :=
 ∀ (b5 b9 b4:Nat) (x1 x2:Res) (w:World),St [] w0 [.blk b5 91 [vP b9 0],.blk b9 93 [.slice A m c],.blk b4 37 zEnvC,x1,x2] w →
  Calls Tryz.prog 34 #[vP b5 0,vP b4 0] w fun e w'=>e=gaveUp none∧∃ x,St [] w0 (x1::reL b5 b9 b4 x2 f t cm pub p q n body x) w'
def re1Bad (w0:World) (A:Option Addr) (m c k:Nat):Prop :=
 ∀ (b5 b9 b4:Nat) (x1 x2:Res) (w:World),St [] w0 [.blk b5 91 [vP b9 0],.blk b9 93 [.slice A m c],.blk b4 37 zEnvC,x1,x2] w →
  Calls Tryz.prog 34 #[vP b5 0,vP b4 0] w fun e w'=>e=gaveUp (some k)∧∃ x,St [] w0 (x1::rxL b5 b9 b4 x2 x) w'
theorem re_wrong {w0:World} {A:Option Addr} {m c n:Nat} {f t p q:Int} {cm pub body:List UInt8} (hG:re1Ok w0 A m c f t cm pub p q n body) (b5 b9 b4:Nat) (x2:Res) (w:World) (H:St [] w0 [.blk b5 91 [vP b9 0],.blk b9 93 [.slice A m c],.blk b4 37 zEnvC,x2] w) :
 Calls Tryz.prog 33 #[.func (.func 34) #[] [vP b5 0,vP b4 0].toArray] w (fun e w'=>e=.returned (vN 0)∧∃ x,St [] w0 (reL b5 b9 b4 x2 f t cm pub p q n body x) w') :=
 wrong_calls (L1:=fun x=>reL b5 b9 b4 x2 f t cm pub p q n body x) none F34 rfl rfl (fun b w2 H2=>hG b5 b9 b4 (.blk b 29 [vI 0]) x2 w2 (H2.pick (ks:=[1,2,3,0,4]) (by decide) rfl)) w H
theorem re_wrongX {w0:World} {A:Option Addr} {m c k:Nat} (hG:re1Bad w0 A m c k) (b5 b9 b4:Nat) (x2:Res) (w:World) (H:St [] w0 [.blk b5 91 [vP b9 0],.blk b9 93 [.slice A m c],.blk b4 37 zEnvC,x2] w) :
 Calls Tryz.prog 33 #[.func (.func 34) #[] [vP b5 0,vP b4 0].toArray] w (fun e w'=>e=.returned (vN k)∧∃ x,St [] w0 (rxL b5 b9 b4 x2 x) w') :=
 wrong_calls (L1:=fun x=>rxL b5 b9 b4 x2 x) (some k) F34 rfl rfl (fun b w2 H2=>hG b5 b9 b4 (.blk b 29 [vI 0]) x2 w2 (H2.pick (ks:=[1,2,3,0,4]) (by decide) rfl)) w H
theorem re_none {w:World} {A:Option Addr} {m c n:Nat} {f t p q:Int} {cm pub body:List UInt8} (hc:cm.length=32) (hp:pub.length=32) (hG:re1Ok w A m c f t cm pub p q n body) :
 Calls Tryz.prog 9 #[.slice A m c] w fun e w'=>∃ x:Option Addr × Nat,e=.returned (.tuple #[.agg (envC f t cm pub p q (.slice x.1 n x.2)).toArray,vN 0])∧St [] w [.row 5 1 (.slice x.1 n x.2) n (bys body)] w':=by
 have hz:=zEnvC_length
 have elen:=fun (s:Value)=>envC_len (f:=f) (t:=t) (p:=p) (q:=q) (sl:=s) hc hp
 have eone:=fun (A:Option Addr) (n c:Nat)=>envC_one (f:=f) (t:=t) (p:=p) (q:=q) (cm:=cm) (pub:=pub) (sl:=.slice A n c) rfl
 refine enter (n:=17) (R:=fun e M=>∃ x:Option Addr × Nat,e=.returned (.tuple #[.agg (envC f t cm pub p q (.slice x.1 n x.2)).toArray,vN 0])∧∀ w',St [] w M w'→St [] w [.row 5 1 (.slice x.1 n x.2) n (bys body)] w') [.slice A m c] F9 rfl rfl rfl (St.refl w) ?_ (fun e w' L' h H=>by obtain ⟨x,h1,h2⟩:=h;exact ⟨x,h1,h2 w' H⟩)
 refine VC_seq<|VC_region<|l_allocA zr37 rfl<|fun b2=>vl_v (q_assign rfl) rfl<|vl_nil<|th_n<|VC_seq<|VC_region<|l_allocA zr37 rfl<|fun b4=>vl_nil<|th_n<|VC_seq ?_
 refine VC_region<|vl_v (q_move rfl) rfl<|vl_v (q_buildS (tot:=1) (sizes:=[1]) (c':=[.slice A m c]) (by kernel_rfl) rfl rfl rfl rfl rfl rfl) rfl<|l_boxA rfl rfl<|fun b9=>l_alloc1 zr91 rfl rfl<|fun b5=>l_store1 0 rfl rfl rfl sz91 rfl (by decide) ?_
 simp only [List.set_cons_zero,List.set_cons_succ]
 refine vl_nil<|th_n<|VC_seq<|VC_region ?_
 rw [zEnvC_eq]
 refine vl_v (q_makeFunc rfl) rfl<|l_callF F33 rfl rfl rfl (fun w1 H1=>re_wrong hG _ _ _ _ w1 H1) rfl<|fun x11=>vl_v (q_assign rfl) rfl<|vl_nil<|th_n<|VC_seq<|VC_seq<|VC_region<|vl_v (q_move rfl) rfl<|vl_v (q_neq_n (q:=0) U29 rfl rfl) rfl<|vl_nil<|th_n ?_
 refine VC_no (rfl)<|VC_skip<|th_n<|VC_seq<|VC_region<|vl_v (q_loads 3 U37 rfl rfl rfl sz37 (by exact elen _)) rfl<|l_storeA 4 rfl rfl rfl sz37 (elen _) (eone _ _ _) (by assumption) ?_
 simp only [List.set_cons_zero,List.set_cons_succ]
 refine vl_v (q_assign rfl) rfl<|vl_nil<|th_n<|VC_ret<|⟨_,resC2 4 rfl U37 rfl rfl rfl sz37 (by exact elen _) rfl,?_⟩
 exact ⟨(x11.2.1,x11.2.2),rfl,fun w' H=>H.pick (ks:=[0]) (by decide) rfl⟩
theorem re_some {w:World} {A:Option Addr} {m c k:Nat} (hk:k≠0) (hG:re1Bad w A m c k) :
 Calls Tryz.prog 9 #[.slice A m c] w fun e w'=>e=.returned (.tuple #[.agg zEnvC.toArray,vN k])∧Kept [] w w':=by
 have hz:=zEnvC_length
 have hzo:=zEnvC_one
 refine enter (n:=17) (R:=fun e M=>e=.returned (.tuple #[.agg zEnvC.toArray,vN k])) [.slice A m c] F9 rfl rfl rfl (St.refl w) ?_ (fun e w' L' h H=>⟨h,H.kept⟩)
 refine VC_seq<|VC_region<|l_allocA zr37 rfl<|fun b2=>vl_v (q_assign rfl) rfl<|vl_nil<|th_n<|VC_seq<|VC_region<|l_allocA zr37 rfl<|fun b4=>vl_nil<|th_n<|VC_seq ?_
 refine VC_region<|vl_v (q_move rfl) rfl<|vl_v (q_buildS (tot:=1) (sizes:=[1]) (c':=[.slice A m c]) (by kernel_rfl) rfl rfl rfl rfl rfl rfl) rfl<|l_boxA rfl rfl<|fun b9=>l_alloc1 zr91 rfl rfl<|fun b5=>l_store1 0 rfl rfl rfl sz91 rfl (by decide) ?_
 simp only [List.set_cons_zero,List.set_cons_succ]
 refine vl_nil<|th_n<|VC_seq<|VC_region ?_
 rw [zEnvC_eq]
 refine vl_v (q_makeFunc rfl) rfl<|l_callF F33 rfl rfl rfl (fun w1 H1=>re_wrongX hG _ _ _ _ w1 H1) rfl<|fun x11=>vl_v (q_assign rfl) rfl<|vl_nil<|th_n<|VC_seq<|VC_seq<|VC_region<|vl_v (q_move rfl) rfl<|vl_v (q_as (v:=.bool true) (q_neq_n (q:=0) U29 rfl rfl) (congrArg Value.bool (by simpa using hk))) rfl<|vl_nil<|th_n ?_
 refine VC_yes (rfl)<|VC_seq<|VC_region<|vl_v (q_build (c':=zEnvC) rfl (by kernel_rfl)) rfl<|vl_v (q_move rfl) rfl<|l_storeA 3 rfl rfl rfl sz37 (by assumption) (by with_reducible first | exact bys_one _ | exact u32s_one _ | exact u64s_one _ | exact i64s_one _ | exact n64s_one _ | assumption) (by assumption) ?_
 simp only [List.set_cons_zero,List.set_cons_succ]
 refine vl_v (q_assign rfl) rfl<|vl_nil<|th_n<|VC_ret<|th_r<|⟨_,resC2 3 rfl U37 rfl rfl rfl sz37 (by assumption) rfl,?_⟩
 exact rfl
def reCalls (F:FuncId) (l:List UInt8) (A:Option Addr) (m c:Nat) (w:World):Prop :=
 Calls Tryz.prog F #[.slice A m c] w fun e w'=>∃ x,e=.returned (.tuple #[.agg (envOf (reX l) x).toArray,vN (reE l)])∧St [] w [bodyR 5 (reX l).body x] w'
theorem reCalls_ok {F:FuncId} {l:List UInt8} {A:Option Addr} {m c:Nat} {w:World} (h0:reE l=0) (hn:((l.drop 76).take (reN l)).length=reN l)
 (h:Calls Tryz.prog F #[.slice A m c] w fun e w'=>∃ x:Option Addr × Nat,e=.returned (.tuple #[.agg (envC (reF l) (reT l) (reC l) (rdP (l.drop 34)) (rdM (l.drop 34)) (rdN (l.drop 34)) (.slice x.1 (reN l) x.2)).toArray,vN 0])∧St [] w [.row 5 1 (.slice x.1 (reN l) x.2) (reN l) (bys ((l.drop 76).take (reN l)))] w'):reCalls F l A m c w:=by
 have e:reX l=reX1 l:=if_pos h0
 unfold reCalls
 rw [e,h0]
 show Calls Tryz.prog F #[.slice A m c] w fun e w'=>∃ x:Option Addr × Nat,e=.returned (.tuple #[.agg (envC (reF l) (reT l) (reC l) (rdP (l.drop 34)) (rdM (l.drop 34)) (rdN (l.drop 34)) (.slice x.1 ((l.drop 76).take (reN l)).length x.2)).toArray,vN 0])∧St [] w [.row 5 1 (.slice x.1 ((l.drop 76).take (reN l)).length x.2) ((l.drop 76).take (reN l)).length (bys ((l.drop 76).take (reN l)))] w'
 rw [hn]
 exact h
theorem reCalls_bad {F:FuncId} {l:List UInt8} {A:Option Addr} {m c k:Nat} {w:World} (h0:reE l=k) (hk:k≠0)
 (h:Calls Tryz.prog F #[.slice A m c] w fun e w'=>e=.returned (.tuple #[.agg zEnvC.toArray,vN k])∧Kept [] w w'):reCalls F l A m c w:=by
 have e:reX l=zEnvD:=if_neg (by rw [h0];exact hk)
 unfold reCalls
 rw [e,h0]
 exact h.mono fun e w' ⟨h1,h2⟩=>⟨(none,0),h1,((St.refl w).keep h2).addNil _ _⟩
theorem readE_calls (l:List UInt8) (A:Option Addr) (m c:Nat) (hm:m=l.length) (hc:m≤c) (w:World) (hA:SlAt w A (bys l)):reCalls 9 l A m c w:=by
 by_cases h1:l.length<76
 ·refine reCalls_bad (k:=3) (by unfold reE;rw [if_pos h1]) (by omega) (re_some (by omega) fun b5 b9 b4 x1 x2 w1 H1=>?_)
  by_cases g0:m<1
  ·exact renv_b0 b5 b9 b4 x1 x2 l A m c hm hc g0 hA w1 H1
  by_cases g1:m=1
  ·exact renv_b1 b5 b9 b4 x1 x2 l A m c hm hc g1 hA w1 H1
  by_cases g2:m<34
  ·exact renv_b2 b5 b9 b4 x1 x2 l A m c hm hc (by omega) g2 hA w1 H1
  by_cases g3:m<74
  ·exact renv_b3 b5 b9 b4 x1 x2 l A m c hm hc (by omega) g3 hA w1 H1
  ·exact renv_b4 b5 b9 b4 x1 x2 l A m c hm hc (by omega) (by omega) hA w1 H1
 by_cases h2:l.length<76+reN l
 ·exact reCalls_bad (k:=3) (by unfold reE;rw [if_neg h1,if_pos h2]) (by omega) (re_some (by omega) fun b5 b9 b4 x1 x2 w1 H1=>renv_b5 b5 b9 b4 x1 x2 l A m c hm hc (by omega) (by omega) hA w1 H1)
 have hcm:(reC l).length=32:=by unfold reC;simp;omega
 have hpb:(rdP (l.drop 34)).length=32:=by unfold rdP;simp;omega
 cases ho:reOk l with
 | true =>
  have ho2:=ho
  unfold reOk at ho2
  rw [Bool.and_eq_true,decide_eq_true_iff] at ho2
  exact reCalls_ok (by unfold reE;rw [if_neg h1,if_neg h2,if_pos ho]) (by simp;omega) (re_none hcm hpb fun b5 b9 b4 x1 x2 w1 H1=>renv_ok12 b5 b9 b4 x1 x2 l A m c hm hc (by omega) ho2.1 hA w1 H1)
 | false =>
  refine reCalls_bad (k:=2) (by unfold reE;rw [if_neg h1,if_neg h2,if_neg (by rw [ho];decide)]) (by omega) (re_some (by omega) fun b5 b9 b4 x1 x2 w1 H1=>renv_form b5 b9 b4 x1 x2 l A m c hm hc (by omega) ?_ hA w1 H1)
  cases hr:reR l (reN l) with
  | false=>exact .inl rfl
  | true =>
   refine .inr ?_
   unfold reOk at ho
   rw [hr,Bool.true_and,decide_eq_false_iff_not] at ho
   omega
end Go.Proofs.YtfpdnpppcoomnaaGreat
namespace Go.PBYtfpdnpppcoomnaaGreat
open Go Go.RowKit
def sameEB (X Y:EnvD):Bool:=decide (X.f=Y.f)&&decide (X.t=Y.t)&&decide (X.cm=Y.cm)&&decide (X.pub=Y.pub∧X.p=Y.p∧X.q=Y.q)&&decide (X.body=Y.body)
theorem sameEB_refl (X:EnvD):sameEB X X=true:=by simp [sameEB]
theorem headC_inj {a b:List UInt8} {p q p' q':Int} (ha:a.length=32) (hb:b.length=32):headC a p q=headC b p' q'↔a=b∧p=p'∧q=q':=by
 constructor
 ·intro h
  have h1:=List.append_inj h (by simp [bys,ha,hb])
  have h2:=bys_inj' h1.1
  have h3:=h1.2
  simp only [List.cons.injEq,Value.int.injEq,true_and,and_true] at h3
  exact ⟨h2,h3.1,h3.2⟩
 ·rintro ⟨rfl,rfl,rfl⟩;rfl
end Go.PBYtfpdnpppcoomnaaGreat
namespace Go.Proofs.YtfpdnpppcoomnaaGreat
open Go.RowKit Go.PBYtfpdnpppcoomnaaGreat
theorem same12_calls (X Y:EnvD) (A B:Option Addr) (c k:Nat) (hX1:X.cm.length=32) (hX2:X.pub.length=32) (hY1:Y.cm.length=32) (hY2:Y.pub.length=32) (fX:Fits (headC X.pub X.p X.q) (List.replicate 32 .u8++[.i64,.i64])) (fY:Fits (headC Y.pub Y.p Y.q) (List.replicate 32 .u8++[.i64,.i64])) (w:World) (hA:SlAt w A (bys X.body)) (hB:SlAt w B (bys Y.body)) :
 Calls Tryz.prog 17 #[.agg (envOf X (A,c)).toArray,.agg (envOf Y (B,k)).toArray] w fun e w'=>e=.returned (.bool (sameEB X Y))∧Kept [] w w':=by
 have hF:=envC_f (f:=X.f) (t:=X.t) (p:=X.p) (q:=X.q) (sl:=.slice A X.body.length c) hX1 hX2
 have hG:=envC_f (f:=Y.f) (t:=Y.t) (p:=Y.p) (q:=Y.q) (sl:=.slice B Y.body.length k) hY1 hY2
 have hX:=headC_length hX2 X.p X.q
 have hY:=headC_length hY2 Y.p Y.q
 have hi:=headC_inj (p:=X.p) (q:=X.q) (p':=Y.p) (q':=Y.q) hX2 hY2
 unfold envOf
 simp only
 obtain ⟨u,hu⟩:∃ u,envC X.f X.t X.cm X.pub X.p X.q (.slice A X.body.length c)=u:=⟨_,rfl⟩
 obtain ⟨v,hv⟩:∃ v,envC Y.f Y.t Y.cm Y.pub Y.p Y.q (.slice B Y.body.length k)=v:=⟨_,rfl⟩
 rw [hu] at hF ⊢
 rw [hv] at hG ⊢
 obtain ⟨h0,g0,g1,g2,g3,g4⟩:=hF
 obtain ⟨j0,k0,k1,k2,k3,k4⟩:=hG
 have lX:(bys X.cm).length=32:=by rw [bys_length];exact hX1
 have lY:(bys Y.cm).length=32:=by rw [bys_length];exact hY1
 refine enter (n:=40) (R:=fun e M=>e=.returned (.bool (sameEB X Y))) [.agg u.toArray,.agg v.toArray] F17 rfl rfl rfl (St.refl w) ?_ (fun e w' L' h H=>⟨h,H.kept⟩)
 refine VC_seq<|VC_region<|l_boxA rfl rfl<|fun b2=>l_boxA rfl rfl<|fun b3=>vl_v (q_assign rfl) rfl<|vl_nil<|th_n<|VC_seq<|VC_region<|vl_v (q_fldA fo37_0 (by decide) rfl rfl) rfl<|vl_v (q_load 1 U3 rfl rfl rfl g0) rfl<|vl_v (q_fldA fo37_0 (by decide) rfl rfl) rfl ?_
 refine vl_v (q_load 0 U3 rfl rfl rfl k0) rfl<|vl_v (q_eql_k U3 rfl rfl) rfl ?_
 by_cases hs9:X.f=Y.f
 ·skip
  rw [show decide (X.f=Y.f)=true from decide_eq_true hs9]
  refine vl_v (q_move rfl) rfl<|vl_vg rfl (q_fldA fo37_1 (by decide) rfl rfl) rfl<|vl_vg rfl (q_load 1 U3 rfl rfl rfl g1) rfl<|vl_vg rfl (q_fldA fo37_1 (by decide) rfl rfl) rfl<|vl_vg rfl (q_load 0 U3 rfl rfl rfl k1) rfl<|vl_vg rfl (q_eql_k U3 rfl rfl) rfl ?_
  by_cases hs15:X.t=Y.t
  ·skip
   rw [show decide (X.t=Y.t)=true from decide_eq_true hs15]
   refine vl_v (q_pickT rfl rfl) rfl<|vl_v (q_move rfl) rfl<|vl_vg rfl (q_fldA fo37_2 (by decide) rfl rfl) rfl<|vl_vg rfl (q_loadsAt 1 U33 rfl rfl rfl sz33 g2 lX) rfl<|vl_vg rfl (q_fldA fo37_2 (by decide) rfl rfl) rfl<|vl_vg rfl (q_loadsAt 0 U33 rfl rfl rfl sz33 k2 lY) rfl<|vl_vg rfl (q_eqB flat32d rfl rfl (fits_bys' hX1) (fits_bys' hY1)) rfl ?_
   by_cases hs22:X.cm=Y.cm
   ·skip
    rw [show decide (X.cm=Y.cm)=true from decide_eq_true hs22]
    refine vl_v (q_pickT rfl rfl) rfl<|vl_v (q_move rfl) rfl<|vl_vg rfl (q_fldA fo37_3 (by decide) rfl rfl) rfl<|vl_vg rfl (q_loadsAt 1 U35 rfl rfl rfl sz35 g3 hX) rfl<|vl_vg rfl (q_fldA fo37_3 (by decide) rfl rfl) rfl<|vl_vg rfl (q_loadsAt 0 U35 rfl rfl rfl sz35 k3 hY) rfl<|vl_vg rfl (q_eqR flatHead rfl rfl fX fY (r:=decide (X.pub=Y.pub∧X.p=Y.p∧X.q=Y.q)) (by rw [decide_eq_true_iff];exact hi.symm)) rfl ?_
    by_cases hs29:X.pub=Y.pub∧X.p=Y.p∧X.q=Y.q
    ·skip
     rw [show decide (X.pub=Y.pub∧X.p=Y.p∧X.q=Y.q)=true from decide_eq_true hs29]
     refine vl_v (q_pickT rfl rfl) rfl<|vl_v (q_move rfl) rfl<|vl_vg rfl (q_fldA fo37_4 (by decide) rfl rfl) rfl<|vl_vg rfl (q_load 1 U22 rfl rfl rfl g4) rfl<|vl_vg rfl (q_str (l:=X.body) U22 U5 U9 rfl (Reads.old hA) rfl) rfl<|vl_vg rfl (q_fldA fo37_4 (by decide) rfl rfl) rfl<|vl_vg rfl (q_load 0 U22 rfl rfl rfl k4) rfl<|vl_vg rfl (q_str (l:=Y.body) U22 U5 U9 rfl (Reads.old hB) rfl) rfl<|vl_vg rfl (q_eqStr U9 rfl rfl) rfl<|vl_v (q_pickT rfl rfl) rfl<|vl_v (q_assign rfl) rfl<|vl_nil ?_
     refine th_n<|VC_ret<|⟨_,res1 rfl rfl,?_⟩
     exact congrArg (fun b=>Ending.returned (Value.bool b)) (by unfold sameEB;(first | rw [decide_eq_true hs9,decide_eq_true hs15,decide_eq_true hs22,decide_eq_true hs29] | rw [decide_eq_true hs9,decide_eq_true hs15,decide_eq_true hs22,decide_eq_false hs29] | rw [decide_eq_true hs9,decide_eq_true hs15,decide_eq_false hs22] | rw [decide_eq_true hs9,decide_eq_false hs15] | rw [decide_eq_false hs9])<;>rfl)
    ·skip
     rw [show decide (X.pub=Y.pub∧X.p=Y.p∧X.q=Y.q)=false from decide_eq_false hs29]
     refine vl_v (q_pickT rfl rfl) rfl<|vl_v (q_move rfl) rfl<|vl_skip rfl rfl<|vl_skip rfl rfl<|vl_skip rfl rfl<|vl_skip rfl rfl<|vl_skip rfl rfl<|vl_skip rfl rfl<|vl_skip rfl rfl<|vl_v (q_pickF rfl rfl) rfl<|vl_v (q_assign rfl) rfl<|vl_nil ?_
     refine th_n<|VC_ret<|⟨_,res1 rfl rfl,?_⟩
     exact congrArg (fun b=>Ending.returned (Value.bool b)) (by unfold sameEB;(first | rw [decide_eq_true hs9,decide_eq_true hs15,decide_eq_true hs22,decide_eq_true hs29] | rw [decide_eq_true hs9,decide_eq_true hs15,decide_eq_true hs22,decide_eq_false hs29] | rw [decide_eq_true hs9,decide_eq_true hs15,decide_eq_false hs22] | rw [decide_eq_true hs9,decide_eq_false hs15] | rw [decide_eq_false hs9])<;>rfl)
   ·skip
    rw [show decide (X.cm=Y.cm)=false from decide_eq_false hs22]
    refine vl_v (q_pickT rfl rfl) rfl<|vl_v (q_move rfl) rfl<|vl_skip rfl rfl<|vl_skip rfl rfl<|vl_skip rfl rfl<|vl_skip rfl rfl<|vl_skip rfl rfl<|vl_v (q_pickF rfl rfl) rfl<|vl_v (q_move rfl) rfl<|vl_skip rfl rfl<|vl_skip rfl rfl<|vl_skip rfl rfl ?_
    refine vl_skip rfl rfl<|vl_skip rfl rfl<|vl_skip rfl rfl<|vl_skip rfl rfl<|vl_v (q_pickF rfl rfl) rfl<|vl_v (q_assign rfl) rfl<|vl_nil<|th_n<|VC_ret<|⟨_,res1 rfl rfl,?_⟩
    exact congrArg (fun b=>Ending.returned (Value.bool b)) (by unfold sameEB;(first | rw [decide_eq_true hs9,decide_eq_true hs15,decide_eq_true hs22,decide_eq_true hs29] | rw [decide_eq_true hs9,decide_eq_true hs15,decide_eq_true hs22,decide_eq_false hs29] | rw [decide_eq_true hs9,decide_eq_true hs15,decide_eq_false hs22] | rw [decide_eq_true hs9,decide_eq_false hs15] | rw [decide_eq_false hs9])<;>rfl)
  ·skip
   rw [show decide (X.t=Y.t)=false from decide_eq_false hs15]
   refine vl_v (q_pickT rfl rfl) rfl<|vl_v (q_move rfl) rfl<|vl_skip rfl rfl<|vl_skip rfl rfl<|vl_skip rfl rfl<|vl_skip rfl rfl<|vl_skip rfl rfl<|vl_v (q_pickF rfl rfl) rfl<|vl_v (q_move rfl) rfl<|vl_skip rfl rfl<|vl_skip rfl rfl<|vl_skip rfl rfl ?_
   refine vl_skip rfl rfl<|vl_skip rfl rfl<|vl_v (q_pickF rfl rfl) rfl<|vl_v (q_move rfl) rfl<|vl_skip rfl rfl<|vl_skip rfl rfl<|vl_skip rfl rfl<|vl_skip rfl rfl<|vl_skip rfl rfl<|vl_skip rfl rfl<|vl_skip rfl rfl<|vl_v (q_pickF rfl rfl) rfl ?_
   refine vl_v (q_assign rfl) rfl<|vl_nil<|th_n<|VC_ret<|⟨_,res1 rfl rfl,?_⟩
   exact congrArg (fun b=>Ending.returned (Value.bool b)) (by unfold sameEB;(first | rw [decide_eq_true hs9,decide_eq_true hs15,decide_eq_true hs22,decide_eq_true hs29] | rw [decide_eq_true hs9,decide_eq_true hs15,decide_eq_true hs22,decide_eq_false hs29] | rw [decide_eq_true hs9,decide_eq_true hs15,decide_eq_false hs22] | rw [decide_eq_true hs9,decide_eq_false hs15] | rw [decide_eq_false hs9])<;>rfl)
 ·skip
  rw [show decide (X.f=Y.f)=false from decide_eq_false hs9]
  refine vl_v (q_move rfl) rfl<|vl_skip rfl rfl<|vl_skip rfl rfl<|vl_skip rfl rfl<|vl_skip rfl rfl<|vl_skip rfl rfl<|vl_v (q_pickF rfl rfl) rfl<|vl_v (q_move rfl) rfl<|vl_skip rfl rfl<|vl_skip rfl rfl<|vl_skip rfl rfl<|vl_skip rfl rfl ?_
  refine vl_skip rfl rfl<|vl_v (q_pickF rfl rfl) rfl<|vl_v (q_move rfl) rfl<|vl_skip rfl rfl<|vl_skip rfl rfl<|vl_skip rfl rfl<|vl_skip rfl rfl<|vl_skip rfl rfl<|vl_v (q_pickF rfl rfl) rfl<|vl_v (q_move rfl) rfl<|vl_skip rfl rfl<|vl_skip rfl rfl ?_
  refine vl_skip rfl rfl<|vl_skip rfl rfl<|vl_skip rfl rfl<|vl_skip rfl rfl<|vl_skip rfl rfl<|vl_v (q_pickF rfl rfl) rfl<|vl_v (q_assign rfl) rfl<|vl_nil<|th_n<|VC_ret<|⟨_,res1 rfl rfl,?_⟩
  exact congrArg (fun b=>Ending.returned (Value.bool b)) (by unfold sameEB;(first | rw [decide_eq_true hs9,decide_eq_true hs15,decide_eq_true hs22,decide_eq_true hs29] | rw [decide_eq_true hs9,decide_eq_true hs15,decide_eq_true hs22,decide_eq_false hs29] | rw [decide_eq_true hs9,decide_eq_true hs15,decide_eq_false hs22] | rw [decide_eq_true hs9,decide_eq_false hs15] | rw [decide_eq_false hs9])<;>rfl)
end Go.Proofs.YtfpdnpppcoomnaaGreat
namespace Go.PBYtfpdnpppcoomnaaGreat
open Go Go.RowKit
def enR (X:EnvD):Bool:=rightEB X.f X.t X.p X.q X.body.length
def enB (X:EnvD):List UInt8:=if enR X then envB X.f.toNat X.t.toNat X.cm X.pub X.p.toNat X.q.toNat X.body else []
def enK (X:EnvD):Nat:=if enR X then 0 else 1
theorem rd_take (l:List UInt8):rdP (l.take 40)=rdP l∧rdM (l.take 40)=rdM l∧rdN (l.take 40)=rdN l:=by
 refine ⟨?_,?_,?_⟩
 ·unfold rdP;rw [List.take_take];rfl
 ·unfold rdM;rw [List.drop_take,List.take_take];rfl
 ·unfold rdN;rw [List.drop_take,List.take_take];rfl
theorem ofHigh_one (n:Nat) (h:n<256):ofHigh [UInt8.ofNat n]=n:=by
 show (0*256+(UInt8.ofNat n).toNat)=n
 rw [UInt8.toNat_ofNat_of_lt' (by show n<256;exact h)]
 omega
section
variable {f t x y : Nat} {cm pub body rest : List UInt8}
theorem env_parts (hc:cm.length=32) (hp:pub.length=32) (hr:rightEB f t x y body.length=true) :
 reF (envB f t cm pub x y body++rest)=f∧reT (envB f t cm pub x y body++rest)=t∧reC (envB f t cm pub x y body++rest)=cm∧rdP ((envB f t cm pub x y body++rest).drop 34)=pub ∧
 rdM ((envB f t cm pub x y body++rest).drop 34)=x∧rdN ((envB f t cm pub x y body++rest).drop 34)=y∧reN (envB f t cm pub x y body++rest)=body.length∧(envB f t cm pub x y body++rest).drop 76=body++rest:=by
 obtain ⟨h1,h2,h3⟩:=rightEB_iff.1 hr
 have h4:=rightB_iff.1 h2
 have lh:=headB_length hp x y
 have l2:=highB_length body.length 2
 have e:envB f t cm pub x y body++rest=[UInt8.ofNat f,UInt8.ofNat t]++(cm++(headB pub x y++(highB body.length 2++(body++rest)))):=by simp [envB,List.append_assoc]
 rw [e]
 have d2:([UInt8.ofNat f,UInt8.ofNat t]++(cm++(headB pub x y++(highB body.length 2++(body++rest))))).drop 2=cm++(headB pub x y++(highB body.length 2++(body++rest))):=rfl
 have d34:([UInt8.ofNat f,UInt8.ofNat t]++(cm++(headB pub x y++(highB body.length 2++(body++rest))))).drop 34=headB pub x y++(highB body.length 2++(body++rest)):=by
  rw [show (34:Nat)=2+32 from rfl,← List.drop_drop,d2,List.drop_left' hc]
 have d74:([UInt8.ofNat f,UInt8.ofNat t]++(cm++(headB pub x y++(highB body.length 2++(body++rest))))).drop 74=highB body.length 2++(body++rest):=by
  rw [show (74:Nat)=34+40 from rfl,← List.drop_drop,d34,List.drop_left' lh]
 have d76:([UInt8.ofNat f,UInt8.ofNat t]++(cm++(headB pub x y++(highB body.length 2++(body++rest))))).drop 76=body++rest:=by
  rw [show (76:Nat)=74+2 from rfl,← List.drop_drop,d74,List.drop_left' l2]
 have t40:(headB pub x y++(highB body.length 2++(body++rest))).take 40=headB pub x y:=List.take_left' lh
 obtain ⟨r1,r2,r3⟩:=rd_take (headB pub x y++(highB body.length 2++(body++rest)))
 rw [t40] at r1 r2 r3
 refine ⟨?_,?_,?_,?_,?_,?_,?_,d76⟩
 ·show ofHigh [UInt8.ofNat f]=f
  exact ofHigh_one f (by omega)
 ·show ofHigh [UInt8.ofNat t]=t
  exact ofHigh_one t (by omega)
 ·unfold reC;rw [d2,List.take_left' hc]
 ·rw [d34,← r1];exact rdP_headB hp x y
 ·rw [d34,← r2];exact rdM_headB hp (by omega)
 ·rw [d34,← r3];exact rdN_headB hp (by omega)
 ·unfold reN;rw [d74,List.take_left' l2,ofHigh_highB];omega
end
theorem enR_nat {X:EnvD} (h:enR X=true):∃ f t p q:Nat,X.f=(f:Int)∧X.t=(t:Int)∧X.p=(p:Int)∧X.q=(q:Int):=by
 obtain ⟨h1,h2,h3⟩:=rightEB_iff.1 h
 have h4:=rightB_iff.1 h2
 exact ⟨X.f.toNat,X.t.toNat,X.p.toNat,X.q.toNat,by omega,by omega,by omega,by omega⟩
theorem re_en {X:EnvD} (hc:X.cm.length=32) (hp:X.pub.length=32) (h:enR X=true):reE (enB X)=0∧reX (enB X)=X:=by
 have hB:enB X=envB X.f.toNat X.t.toNat X.cm X.pub X.p.toNat X.q.toNat X.body:=if_pos h
 rw [hB]
 obtain ⟨f,t,p,q,e1,e2,e3,e4⟩:=enR_nat h
 have h0:=h
 unfold enR at h0
 rw [e1,e2,e3,e4] at h0
 obtain ⟨X1,X2,cm,pub,X3,X4,body⟩:=X
 simp only at *
 subst e1 e2 e3 e4
 simp only [Int.toNat_natCast]
 have hL:=envB_length (f:=f) (t:=t) (x:=p) (y:=q) (body:=body) hc hp
 have P:=env_parts (rest:=[]) hc hp h0
 rw [List.append_nil,List.append_nil] at P
 obtain ⟨p1,p2,p3,p4,p5,p6,p7,p8⟩:=P
 have hE:reE (envB f t cm pub p q body)=0:=by
  unfold reE
  rw [if_neg (by omega),if_neg (by omega),if_pos]
  unfold reOk reR
  rw [p1,p2,p5,p6,p7,h0,hL,decide_eq_true rfl]
  rfl
 refine ⟨hE,?_⟩
 unfold reX
 rw [if_pos hE]
 unfold reX1
 rw [p1,p2,p3,p4,p5,p6,p7,p8,List.take_length]
end Go.PBYtfpdnpppcoomnaaGreat
namespace Go.Proofs.YtfpdnpppcoomnaaGreat
open Go.RowKit Go.PBYtfpdnpppcoomnaaGreat
def enCalls (F:FuncId) (X:EnvD) (A:Option Addr) (c:Nat) (w:World):Prop :=
 Calls Tryz.prog F #[.agg (envOf X (A,c)).toArray] w fun e w'=>∃ x:Option Addr × Nat,e=.returned (.tuple #[.slice x.1 (enB X).length x.2,vN (enK X)])∧St [] w [bodyR 5 (enB X) x] w'
theorem enCalls_of {F:FuncId} {X:EnvD} {A:Option Addr} {c:Nat} {w:World} (hc:X.cm.length=32) (hp:X.pub.length=32)
 (hbad:rightEB X.f X.t X.p X.q X.body.length=false→Calls Tryz.prog F #[.agg (envC X.f X.t X.cm X.pub X.p X.q (.slice A X.body.length c)).toArray] w fun e w'=>e=.returned (.tuple #[.slice none 0 0,vN 1])∧Kept [] w w')
 (hok:∀ (f t x y:Nat),X.f=(f:Int)→X.t=(t:Int)→X.p=(x:Int)→X.q=(y:Int)→rightEB f t x y X.body.length=true→Calls Tryz.prog F #[.agg (envC f t X.cm X.pub x y (.slice A X.body.length c)).toArray] w fun e w'=>∃ v,e=.returned (.tuple #[v,vN 0])∧St [] w [.row 5 1 v (76+X.body.length) (bys (envB f t X.cm X.pub x y X.body))] w'):enCalls F X A c w:=by
 cases h:enR X with
 | false =>
  have e1:enB X=[]:=if_neg (by rw [h];decide)
  have e2:enK X=1:=if_neg (by rw [h];decide)
  unfold enCalls
  rw [e1,e2]
  exact (hbad h).mono fun e w' ⟨h1,h2⟩=>⟨(none,0),h1,((St.refl w).keep h2).addNil _ _⟩
 | true =>
  obtain ⟨f,t,p,q,g1,g2,g3,g4⟩:=enR_nat h
  have e1:enB X=envB f t X.cm X.pub p q X.body:=by unfold enB;rw [if_pos h,g1,g2,g3,g4];simp only [Int.toNat_natCast]
  have e2:enK X=0:=if_pos h
  have hL:=envB_length (f:=f) (t:=t) (x:=p) (y:=q) (body:=X.body) hc hp
  have h0:=h
  unfold enR at h0
  rw [g1,g2,g3,g4] at h0
  have hk:=hok f t p q g1 g2 g3 g4 h0
  rw [← hL] at hk
  unfold enCalls
  rw [e1,e2]
  unfold envOf
  rw [g1,g2,g3,g4]
  refine hk.mono ?_
  rintro e w' ⟨v,rfl,H⟩
  obtain ⟨B,k,rfl,_,_,_⟩:=row_sl H 0 rfl
  exact ⟨(B,k),rfl,H⟩
theorem henv_calls (X:EnvD) (A:Option Addr) (c:Nat) (hc:X.cm.length=32) (hp:X.pub.length=32) (w:World) (hA:SlAt w A (bys X.body)):enCalls 8 X A c w :=
 enCalls_of hc hp (fun h=>henv_bad _ _ _ _ _ _ _ _ _ hc hp h w) (fun f t x y _ _ _ _ h=>henv_ok f t X.cm X.pub x y X.body _ _ _ rfl hc hp h w hA)
end Go.Proofs.YtfpdnpppcoomnaaGreat
namespace Go.Proofs.YtfpdnpppcoomnaaGreat
open Go Go.RowKit Go.PBYtfpdnpppcoomnaaGreat
theorem answer13_calls {w0:World} {R:List Res} (a:Nat) (sh p:List UInt8) (hsh:sh.length=32) (hp:p.length=64) (w:World) (H:St [] w0 R w) :
 Calls Tryz.prog 23 #[.agg (bys sh).toArray,.agg (bys p).toArray,vP a 0] w fun e w'=>∃ (bs:Nat) (z:SkZ),e=.returned (vP bs 0)∧MapOf z.2.2.1 (mapE [])∧St [] w0 (.blk bs 145 (seC ⟨sh,p,nilP,false,nilP,nilP,0,vP z.1 0⟩++[vP a 0])::(SkO [] z++R)) w':=by
 have hxo:∀ d:Nat,SeD.ok ⟨sh,p,nilP,false,nilP,nilP,0,vP d 0⟩:=fun d=>⟨hsh,hp,rfl,rfl,rfl,rfl⟩
 have lbs:(bys sh).length=32:=by rw [bys_length];exact hsh
 have lbp:(bys p).length=64:=by rw [bys_length];exact hp
 refine enter (n:=14) (R:=fun e L=>∃ (bs:Nat) (z:SkZ),e=.returned (vP bs 0)∧MapOf z.2.2.1 (mapE [])∧∀ w',St [] w0 L w'→St [] w0 (.blk bs 145 (seC ⟨sh,p,nilP,false,nilP,nilP,0,vP z.1 0⟩++[vP a 0])::(SkO [] z++R)) w') [.agg (bys sh).toArray,.agg (bys p).toArray,vP a 0] F23 rfl rfl rfl H ?_ (fun e w' L' h H=>by obtain ⟨bs,z,h1,h2,h3⟩:=h;exact ⟨bs,z,h1,h2,h3 w' H⟩)
 refine VC_seq<|VC_region<|l_boxA rfl rfl<|fun b3=>l_boxA rfl rfl<|fun b4=>vl_v (q_assign rfl) rfl<|vl_nil<|th_n<|VC_seq<|VC_frame (X:=[_,_]) (fun w9 H9=>?_)
 refine VC_drawQ 5 2 [[],[],[],[0,1,2],[],[3,4],[5],[6,2,0,1,3,4,5]] [[],[],[],[0,1,2],[],[0,1,2,3,4],[0,1,2,3,4,5],[0,1,2,3,4,5,6]] [([],[],[],[0,1],[]),([],[],[],[0,1],[]),([],[],[],[0,1],[]),([0,1,2],[],[],[0,1],[0,1,2]),([],[],[],[0,1],[])] [0,1] [0,1,2,3,4] rfl rfl (by kernel_rfl)<|qp_v (fun xs gs hx=>q_loads 1 U33 rfl rfl rfl sz33 (by with_reducible assumption))<|qp_v (fun xs gs hx=>q_loads 0 U60 rfl rfl rfl sz60 (by with_reducible assumption)) ?_
 refine qp_callE (fun xs gs v g=>v=vP (decZ [] g).1 0∧MapOf (decZ [] g).2.2.1 (mapE [])) (fun xs gs v g=>SkO [] (decZ [] g)) F63 rfl rfl (args:=fun xs gs=>[]) (fun xs gs hx=>rfl) (fun xs gs hx R w1 H1=>(newz_calls w1).mono fun e w' h=>(by obtain ⟨z,h1,h2,h3⟩:=h;obtain ⟨g9,hg9⟩:=skz_ghost z h2;refine ⟨_,g9,h1,(by intro h;cases h),⟨(by rw [hg9]),(by rw [hg9];exact h2)⟩,?_⟩;rw [hg9];exact (H1.join h3).perm List.perm_append_comm)) ?_
 refine qp_v (f:=fun xs gs=>.agg (seC ⟨sh,p,nilP,false,nilP,nilP,0,xs 2⟩).toArray) (fun xs gs hx=>?_) ?_
 ·obtain ⟨e9,_⟩:=hx.1 rfl
  simp only [e9]
  exact q_build (c':=seC ⟨sh,p,nilP,false,nilP,nilP,0,vP (decZ [] (gs 2)).1 0⟩) rfl (built_st2 hsh hp)
 refine qp_v (fun xs gs hx=>q_move rfl)<|qp_end<|fun xs gs hx=>?_
 obtain ⟨f9,_⟩:=hx
 simp only [selI,ownsA,List.contains_cons,List.contains_nil,Nat.reduceBEq,Nat.reduceAdd,Bool.or_false,Bool.or_true,Bool.false_or,Bool.true_or,mask,nRow,nBlk,nRowT,tupAt_0,tupAt_1,List.append_assoc,List.nil_append,List.append_nil,List.cons_append,List.singleton_append]
 obtain ⟨e9,f9⟩:=f9
 simp only [e9]
 obtain ⟨z1,hz1⟩:∃ z,decZ [] (gs 2)=z:=⟨_,rfl⟩
 rw [hz1] at f9 ⊢
 have hxl:=seC_length (hxo z1.1)
 refine VL.keep (kp [0,1,2,3,4,6,10,11] rfl)<|vl_v (q_buildS (tot:=103) (sizes:=[102,1]) (c':=seC ⟨sh,p,nilP,false,nilP,nilP,0,vP z1.1 0⟩++[vP a 0]) (by kernel_rfl) rfl rfl rfl rfl (by simp only [List.map_cons,List.map_nil,cellsL,Value.cells,hxl];rfl) (by simp only [flatV,cellsL,Value.cells,List.map_cons,List.map_nil,List.flatten_cons,List.flatten_nil,List.append_nil])) rfl<|l_boxA rfl rfl<|fun b13=>vl_v (q_assign rfl) rfl<|vl_nil<|qn_n<|th_n<|VC_ret<|⟨_,res1 rfl rfl,?_⟩
 exact ⟨b13,z1,rfl,f9,fun w' H=>St.pickR (R:=R) 6 H (ks:=[0,3,4,5]) (by decide) (by decide) rfl rfl⟩
theorem rowsAt2 {w:World} {A:Option Addr} {c:Nat} {u1 u2:Value} {l1 l2:List UInt8} (hA:SlAt w A [u1,u2]) (hc:2≤c) (h1:BsAt w u1 l1) (h2:BsAt w u2 l2):RowsAt w (.slice A 2 c) [l1,l2]:=by
 refine ⟨A,c,[u1,u2],rfl,hc,hA,rfl,?_⟩
 intro i u l hu hl
 match i,hu,hl with
 | 0,hu,hl=>simp at hu hl;subst hu;subst hl;exact h1
 | 1,hu,hl=>simp at hu hl;subst hu;subst hl;exact h2
 | i+2,hu,_=>simp at hu
def asideB (b pub:List UInt8) (p n:Nat):List UInt8:=joinB [b,headB pub p n]
theorem asideB_length (b:List UInt8) {pub:List UInt8} (p n:Nat) (h:pub.length=32):(asideB b pub p n).length=48+b.length:=by
 simp only [asideB,joinB,List.length_append,highB_length,headB_length h,List.length_nil];omega
theorem aside_calls (b pub:List UInt8) (p n:Nat) (B:Option Addr) (lb cb:Nat) (hlb:lb=b.length) (hcb:lb≤cb) (hb:b.length≤1000) (hpub:pub.length=32) (hp:p≤1000000) (hn:n≤1000000) (w:World) (hB:SlAt w B (bys b)) :
 Calls Tryz.prog 72 #[.slice B lb cb,.agg (headC pub p n).toArray] w fun e w'=>∃ v,e=.returned v∧St [] w [.row 5 1 v (asideB b pub p n).length (bys (asideB b pub p n))] w':=by
 subst hlb
 have hbc:=fun w=>hbytes_ok pub p n hpub hp hn w
 have hL:=headB_length hpub p n
 have lj:=asideB_length b p n hpub
 obtain ⟨d,hd⟩:∃ d,headB pub p n=d:=⟨_,rfl⟩
 have hjc:=fun w1 v0 (h:RowsAt w1 v0 [b,d])=>join_calls [b,d] v0 w1 h (by rw [← hd];show (asideB b pub p n).length≤_;omega) (by simp)
 have hj0:joinB [b,d]=asideB b pub p n:=by rw [← hd];rfl
 rw [hj0] at hjc
 rw [hd] at hbc hL
 obtain ⟨j,hj⟩:∃ j,asideB b pub p n=j:=⟨_,rfl⟩
 rw [hj] at hjc lj ⊢
 have lh:(headC pub p n).length=34:=headC_length hpub p n
 refine enter (n:=16) (R:=fun e L=>∃ v,e=.returned v∧∀ w',St [] w L w'→St [] w [.row 5 1 v j.length (bys j)] w') [.slice B b.length cb,.agg (headC pub p n).toArray] F72 rfl rfl rfl (St.refl w) ?_ (fun e w' L' h H=>by obtain ⟨v,h1,h2⟩:=h;exact ⟨v,h1,h2 w' H⟩)
 refine VC_seq<|VC_region<|l_boxA rfl rfl<|fun b3=>vl_v (q_assign rfl) rfl<|vl_nil<|th_n<|VC_seq<|VC_region<|vl_v (q_loads 0 U35 rfl rfl rfl sz35 (by with_reducible assumption)) rfl<|l_callT F32 rfl rfl rfl (fun w1 H1=>hbc w1) rfl<|fun A9 c9 hc9 hm9=>vl_v (q_move rfl) rfl<|vl_v (q_ext rfl rfl) rfl ?_
 refine vl_v (q_ext rfl rfl) rfl<|vl_v (q_assign rfl) rfl<|vl_v (q_assign rfl) rfl<|vl_nil<|th_n<|VC_seq<|VC_region<|vl_v (q_move rfl) rfl<|vl_v (q_move rfl) rfl<|l_litA (cs:=[.slice B b.length cb,.slice A9 40 c9]) U23 in22 (by decide) rfl rfl rfl rfl (one_all rfl) rfl rfl<|fun b14=>l_callR F47 rfl rfl rfl (fun w1 H1=>hjc w1 _ (rowsAt2 (Reads.row 0 rfl w1 H1) (by omega) (bsAt_of rfl hcb (Reads.old hB w1 H1)) (bsAt_of hL.symm (by omega) (Reads.row 1 rfl w1 H1)))) rfl<|fun A15 c15 hc15 hm15=>vl_v (q_assign rfl) rfl ?_
 refine vl_nil<|th_n<|VC_ret<|⟨_,res1 rfl rfl,?_⟩
 exact ⟨_,rfl,fun w' H=>St.pick H (ks:=[0]) (by decide) rfl⟩
def Rest (S:List Nat) (w0:World) (R:List Res) (A:Option Addr) (l:List UInt8):Prop:=∀ (L:List Res) (w:World),St S w0 (L++R) w→SlAt w A (bys l)
theorem Rest.more {S:List Nat} {w0:World} {R:List Res} {A:Option Addr} {l:List UInt8} (h:Rest S w0 R A l) (N:List Res):Rest S w0 (N++R) A l:=fun L w H=>h (L++N) w (by rwa [List.append_assoc])
theorem Rest.old {w0:World} {R:List Res} {A:Option Addr} {l:List UInt8} (h:SlAt w0 A (bys l)):Rest [] w0 R A l:=fun L w H=>H.sl0 h
theorem Rest.row {S:List Nat} {w0:World} {R:List Res} {A:Option Addr} {l:List UInt8} {T:TypeId} {v:Value} {m n c:Nat} (k:Nat) (h:R[k]?=some (.row T 1 v n (bys l))) (e:v=.slice A m c):Rest S w0 R A l:=fun L w H=>by
 subst e
 exact Row.sl (H.ok (.row T 1 (.slice A m c) n (bys l)) (List.mem_append_right _ (List.mem_of_getElem? h)))
theorem Rest.frame {S:List Nat} {w0 w9:World} {X F R:List Res} {A:Option Addr} {l:List UInt8} (h:Rest S w0 F A l) (H9:St S w0 (X++F) w9):Rest (ats X) w9 R A l:=fun L w H=>h (L++R) w (H9.swap H)
def msgK (c:List UInt8):List UInt8:=keyP c tMsg
def nextK (c:List UInt8):List UInt8:=keyP c tChain
theorem send_calls {S:List Nat} {w0:World} {R:List Res} (bs bl:Nat) (x:SeD) (mo:List Value) (ch pub b l:List UInt8) (n:Nat) (B C:Option Addr) (lb cb lc cc:Nat) (hx:x.ok) (hs0:x.s=vP bl 0) (ht0:x.t=false) (hpb:x.own.drop 32=pub) (hch:ch.length=32) (hn:n≤1000) (hp:x.p≤1000) (hlb:lb=b.length) (hcb:lb≤cb) (hb:b.length≤1000) (hlc:lc=l.length) (hcc:lc≤cc) (hl:l.length≤300) (hB:Rest S w0 R B b) (hC:Rest S w0 R C l) (w:World) (H:St S w0 ([.blk bs 145 (seC x++mo),.blk bl 153 (liC ch n)]++R) w) :
 Calls Tryz.prog 29 #[vP bs 0,.slice B lb cb,.slice C lc cc] w fun e w'=>∃ (bl':Nat) (v:Value),e=.returned (.tuple #[.agg (headC pub x.p n).toArray,v,vN 0])∧St S w0 ([.blk bs 145 (seC { x with s:=vP bl' 0 }++mo),.blk bl' 153 (liC (nextK ch) (n+1)),.row 5 1 v (l.length+32) (bys (closeW (msgK ch) (asideB b pub x.p n) l))]++R) w':=by
 subst hlb
 subst hlc
 have hpub:pub.length=32:=by rw [← hpb,List.length_drop,hx.own]
 have hac:=fun w1 h1=>aside_calls b pub x.p n B b.length cb rfl hcb hb hpub (by omega) (by omega) w1 h1
 have lj:=asideB_length b x.p n hpub
 obtain ⟨j,hj⟩:∃ j,asideB b pub x.p n=j:=⟨_,rfl⟩
 rw [hj] at hac lj ⊢
 have hsc:∀ w,Calls Tryz.prog 70 #[.agg (bys ch).toArray] w fun e w'=>e=.returned (.tuple #[.agg (bys (msgK ch)).toArray,.agg (bys (nextK ch)).toArray])∧Kept [] w w':=fun w=>step_calls ch hch w
 have l3:(msgK ch).length=32:=keyP_length ..
 have l4:(nextK ch).length=32:=keyP_length ..
 obtain ⟨ms,hms⟩:∃ r,msgK ch=r:=⟨_,rfl⟩
 obtain ⟨nx,hnx⟩:∃ r,nextK ch=r:=⟨_,rfl⟩
 rw [hms] at hsc l3 ⊢
 rw [hnx] at hsc l4 ⊢
 have hcl:=fun (J:Option Addr) cj w1 h1 h2 (hcj:j.length≤cj)=>close5_calls ms j l l3 J C j.length l.length cj cc rfl rfl (by omega) (by omega) w1 h1 h2 hcj hcc
 have lcl:=closeW_length ms j l
 obtain ⟨cl,hcl0⟩:∃ c,closeW ms j l=c:=⟨_,rfl⟩
 rw [hcl0] at hcl lcl ⊢
 have lbm:(bys ms).length=32:=by rw [bys_length];exact l3
 have lbn:(bys nx).length=32:=by rw [bys_length];exact l4
 have lbc:(bys ch).length=32:=by rw [bys_length];exact hch
 have lbp:(bys pub).length=32:=by rw [bys_length];exact hpub
 have lhd:(headC pub x.p n).length=34:=headC_length hpub _ _
 have ohd:∀ u∈headC pub (x.p:Int) (n:Int),u.oneCell'=true:=by
  intro u hu
  rcases List.mem_append.1 hu with hu | hu
  ·exact bys_one _ u hu
  ·exact one_all rfl u hu
 obtain ⟨g1,g2,g3⟩:=liC_f (m:=n) hch
 have hf:=seC_f hx mo
 have hxl:=hf.len
 have hg4:=hf.g4
 rw [hs0] at hg4
 have hg3:=hf.g3
 rw [ht0] at hg3
 have hg12:=hf.g12
 rw [hpb] at hg12
 have hg6:=hf.g6
 refine enter (n:=100) (R:=fun e L=>∃ (bl':Nat) (v:Value),e=.returned (.tuple #[.agg (headC pub x.p n).toArray,v,vN 0])∧∀ w',St S w0 L w'→St S w0 ([.blk bs 145 (seC { x with s:=vP bl' 0 }++mo),.blk bl' 153 (liC nx (n+1)),.row 5 1 v (l.length+32) (bys cl)]++R) w') [vP bs 0,.slice B b.length cb,.slice C l.length cc] F29 rfl rfl rfl H ?_ (fun e w' L' h H=>by obtain ⟨bl',v,h1,h2⟩:=h;exact ⟨bl',v,h1,h2 w' H⟩)
 refine VC_seq<|VC_region<|l_allocA zr35 rfl<|fun b6=>vl_v (q_assign rfl) rfl<|vl_v (q_assign rfl) rfl<|vl_nil<|th_n<|VC_seq<|VC_block<|VC_seq<|VC_region<|vl_v (q_move rfl) rfl ?_
 refine vl_v (q_nilck rfl) rfl<|vl_v (q_fldA fo145_0 (by decide) rfl rfl) rfl<|vl_v (q_fldA fo143_4 (by decide) rfl rfl) rfl<|vl_v (q_load 1 U141 rfl rfl rfl hg4) rfl<|vl_v (q_eqPN U141 rfl rfl) rfl<|vl_v (q_move rfl) rfl<|vl_skip rfl rfl<|vl_skip rfl rfl<|vl_skip rfl rfl<|vl_skip rfl rfl<|vl_skip rfl rfl<|vl_skip rfl rfl ?_
 refine vl_v (q_pickF rfl rfl) rfl<|vl_v (q_assign rfl) rfl<|vl_nil<|th_n<|VC_no (rfl)<|VC_seq<|VC_region<|vl_v (q_move rfl) rfl<|vl_v (q_lenS U22 rfl) rfl<|vl_v (q_as (v:=.bool false) (q_gtr_n (q:=300) U3 rfl rfl) (by simp;omega)) rfl<|vl_v (q_assign rfl) rfl<|vl_nil ?_
 refine th_n<|VC_no (rfl)<|VC_skip<|bl_n<|th_n<|VC_seq<|VC_seq<|VC_region<|vl_v (q_move rfl) rfl<|vl_v (q_nilck rfl) rfl<|vl_v (q_fldA fo145_0 (by decide) rfl rfl) rfl<|vl_v (q_fldA fo143_3 (by decide) rfl rfl) rfl<|vl_v (q_load 1 U4 rfl rfl rfl hg3) rfl ?_
 refine vl_nil<|th_n<|VC_no (rfl)<|VC_skip<|th_n<|VC_seq<|VC_region<|vl_v (q_move rfl) rfl<|vl_v (q_nilck rfl) rfl<|vl_v (q_fldA fo145_0 (by decide) rfl rfl) rfl<|vl_v (q_fldA fo143_4 (by decide) rfl rfl) rfl<|vl_v (q_load 1 U141 rfl rfl rfl hg4) rfl ?_
 refine vl_v (q_nilck rfl) rfl<|vl_v (q_fldA fo153_0 (by decide) rfl rfl) rfl<|vl_v (q_loadsAt 2 U33 rfl rfl rfl sz33 g2 lbc) rfl<|vl_v (q_callV F70 rfl rfl rfl (fun w1 H1=>hsc w1)) rfl<|vl_v (q_move rfl) rfl<|vl_v (q_ext rfl rfl) rfl<|vl_v (q_ext rfl rfl) rfl<|l_allocA zr33 rfl<|fun b10=>l_allocA zr33 rfl<|fun b11=>l_storeA 1 rfl rfl rfl sz33 (by with_reducible assumption) (by with_reducible first | exact bys_one _ | exact u32s_one _ | exact u64s_one _ | exact i64s_one _ | exact n64s_one _ | assumption) (by rfl) ?_
 simp only [List.set_cons_zero,List.set_cons_succ]
 refine l_storeA 0 rfl rfl rfl sz33 (by with_reducible assumption) (by with_reducible first | exact bys_one _ | exact u32s_one _ | exact u64s_one _ | exact i64s_one _ | exact n64s_one _ | assumption) (by rfl) ?_
 simp only [List.set_cons_zero,List.set_cons_succ]
 refine vl_nil<|th_n<|VC_seq<|VC_drawM 21 [[],[0],[1],[2],[3],[4],[],[6],[7],[8],[9],[],[11],[12],[13],[14],[15],[16],[17],[5,10,18],[],[20,19,0,1,2,3,4,5,6,7,8,9,10,11,12,13,14,15,16,17,18]] [[],[0],[0,1],[0,1,2],[0,1,2,3],[0,1,2,3,4],[],[6],[6,7],[6,7,8],[6,7,8,9],[],[11],[11,12],[11,12,13],[11,12,13,14],[11,12,13,14,15],[11,12,13,14,15,16],[11,12,13,14,15,16,17],[0,1,2,3,4,5,6,7,8,9,10,11,12,13,14,15,16,17,18],[],[0,1,2,3,4,5,6,7,8,9,10,11,12,13,14,15,16,17,18,19,20]] rfl (by kernel_rfl)<|qm_v (fun xs hx=>q_move rfl)<|qm_v (fun xs hx=>q_nilck rfl)<|qm_v (fun xs hx=>q_fldA fo145_0 (by decide) rfl rfl)<|qm_v (fun xs hx=>q_fldA fo143_1 (by decide) rfl rfl)<|qm_v (fun xs hx=>q_fldA fo60_1 (by decide) rfl rfl)<|qm_v (fun xs hx=>q_loadsAt 3 U33 rfl rfl rfl sz33 hg12 lbp)<|qm_v (fun xs hx=>q_move rfl)<|qm_v (fun xs hx=>q_nilck rfl) ?_
 refine qm_v (fun xs hx=>q_fldA fo145_0 (by decide) rfl rfl)<|qm_v (fun xs hx=>q_fldA fo143_6 (by decide) rfl rfl)<|qm_v (fun xs hx=>q_load 3 U3 rfl rfl rfl hg6)<|qm_v (fun xs hx=>q_move rfl)<|qm_v (fun xs hx=>q_nilck rfl)<|qm_v (fun xs hx=>q_fldA fo145_0 (by decide) rfl rfl)<|qm_v (fun xs hx=>q_fldA fo143_4 (by decide) rfl rfl)<|qm_v (fun xs hx=>q_load 3 U141 rfl rfl rfl hg4)<|qm_v (fun xs hx=>q_nilck rfl)<|qm_v (fun xs hx=>q_fldA fo153_1 (by decide) rfl rfl)<|qm_v (fun xs hx=>q_load 4 U3 rfl rfl rfl g3)<|qm_v (fun xs hx=>q_buildS (tot:=34) (sizes:=[32,1,1]) (c':=headC pub x.p n) (by kernel_rfl) rfl rfl rfl rfl (by simp only [List.map_cons,List.map_nil,cellsL,Value.cells,lbp];rfl) (by simp only [flatV,cellsL,Value.cells,List.map_cons,List.map_nil,List.flatten_cons,List.flatten_nil,List.append_nil,headC];rfl)) ?_
 refine qm_a (fun xs hx=>q_alloc zr35 rfl)<|qm_end<|fun xs hx=>?_
 obtain ⟨⟨b12,e12⟩,_⟩:=hx
 simp only [e12]
 simp only [resT,nRow,nBlk,nRowT,tupAt_0,List.append_assoc,List.nil_append,List.append_nil,List.cons_append,List.singleton_append,e12]
 refine VL.keep (kp [0,1,2,6,7,8,13,29,38,10,11,76,12] rfl)<|l_storeA 0 rfl rfl rfl sz35 (by with_reducible assumption) (by with_reducible first | exact bys_one _ | exact u32s_one _ | exact u64s_one _ | exact i64s_one _ | exact n64s_one _ | assumption) (by rfl) ?_
 simp only [List.set_cons_zero,List.set_cons_succ]
 refine vl_nil<|qn_n<|th_n<|VC_seq<|VC_drawM 13 [[],[],[],[2],[3],[4],[5],[6],[7],[8],[9],[1,10],[11],[0,1,2,3,4,5,6,7,8,9,10,11,12],[13,0,1,2,3,4,5,6,7,8,9,10,11,12],[14,0,1,2,3,4,5,6,7,8,9,10,11,12],[15,12,0,1,2,3,4,5,6,7,8,9,10,11]] [[],[],[],[2],[2,3],[2,3,4],[2,3,4,5],[2,3,4,5,6],[2,3,4,5,6,7],[2,3,4,5,6,7,8],[2,3,4,5,6,7,8,9],[1,2,3,4,5,6,7,8,9,10],[1,2,3,4,5,6,7,8,9,10,11],[0,1,2,3,4,5,6,7,8,9,10,11,12],[0,1,2,3,4,5,6,7,8,9,10,11,12,13],[0,1,2,3,4,5,6,7,8,9,10,11,12,13,14],[0,1,2,3,4,5,6,7,8,9,10,11,12,13,14,15]] rfl (by kernel_rfl)<|qm_v (fun xs hx=>q_move rfl)<|qm_v (fun xs hx=>q_loads 1 U33 rfl rfl rfl sz33 (by with_reducible assumption))<|qm_v (fun xs hx=>q_move rfl)<|qm_v (fun xs hx=>q_nilck rfl)<|qm_v (fun xs hx=>q_fldA fo145_0 (by decide) rfl rfl)<|qm_v (fun xs hx=>q_fldA fo143_4 (by decide) rfl rfl)<|qm_v (fun xs hx=>q_load 4 U141 rfl rfl rfl hg4)<|qm_v (fun xs hx=>q_nilck rfl) ?_
 refine qm_v (fun xs hx=>q_fldA fo153_1 (by decide) rfl rfl)<|qm_v (fun xs hx=>q_load 5 U3 rfl rfl rfl g3)<|qm_v (fun xs hx=>q_add_n (q:=1) rfl rfl (by omega))<|qm_v (fun xs hx=>q_build (c':=liC nx (n+1)) rfl (built_li2 l4))<|qm_a (fun xs hx=>q_box (c:=liC nx (n+1)) rfl rfl)<|qm_end<|fun xs hx=>?_
 obtain ⟨⟨b89,e89⟩,_⟩:=hx
 simp only [e89]
 simp only [resT,nRow,nBlk,nRowT,tupAt_0,List.append_assoc,List.nil_append,List.append_nil,List.cons_append,List.singleton_append,e89]
 refine VL.keep (kp [0,1,2,6,7,8,13,29,38,10,11,12,77,89] rfl)<|vl_v (q_nilck rfl) rfl<|vl_v (q_fldA fo145_0 (by decide) rfl rfl) rfl<|vl_v (q_fldA fo143_4 (by decide) rfl rfl) rfl<|l_store1 5 rfl rfl rfl sz141 rfl (by rw [hxl];omega) ?_
 simp only [List.set_cons_zero,List.set_cons_succ]
 rw [hf.w4]
 refine vl_nil<|qn_n<|th_n<|VC_seq<|VC_frame (X:=[_,_,_,_,_,_,_]) (fun w9 H9=>?_)
 refine VC_drawQ 7 7 [[],[],[],[],[2,3],[],[1,4,5],[0,6],[6,7,0,1,2,3,4,5],[8,0,1,2,3,4,5,6,7]] [[],[],[],[],[2,3],[],[1,2,3,4,5],[0,1,2,3,4,5,6],[0,1,2,3,4,5,6,7],[0,1,2,3,4,5,6,7,8]] [([],[],[],[0,1,2,3,4,5,6],[]),([],[],[],[0,1,2,3,4,5,6],[]),([],[],[],[0,1,2,3,4,5,6],[]),([],[],[],[0,1,2,3,4,5,6],[]),([2,3],[],[],[0,1,2,3,4,5,6],[2,3]),([],[],[],[0,1,2,3,4,5,6],[]),([1,2,3,4,5],[],[],[0,1,2,3,4,5,6],[1,2,3,4,5])] [0,1,2,3,4,5,6] [0,1,2,3,4,5,6] rfl rfl (by kernel_rfl)<|qp_v (fun xs gs hx=>q_loads 1 U35 rfl rfl rfl sz35 (by with_reducible assumption))<|qp_v (fun xs gs hx=>q_loads 3 U33 rfl rfl rfl sz33 (by with_reducible assumption))<|qp_v (fun xs gs hx=>q_move rfl)<|qp_v (fun xs gs hx=>q_loads 1 U35 rfl rfl rfl sz35 (by with_reducible assumption))<|qp_a (fun xs gs hx=>q_callR F72 rfl rfl rfl (fun w1 H1=>hac w1 (hB _ w1 (H9.swap H1))))<|qp_v (fun xs gs hx=>q_move rfl)<|qp_a (Fv:=fun _ _=>isSl (l.length+32)) (N:=fun _ _=>nRow 5 1 (l.length+32) (bys cl)) (fun xs gs hx=>?_) ?_
 ·obtain ⟨A97,c97,e97,h97,h97'⟩:=hx.1 rfl
  simp only [e97]
  exact q_callR F71 rfl rfl rfl (fun w1 H1=>hcl _ _ w1 (Reads.rowV 7 e97 rfl w1 H1) (hC _ w1 (H9.swap H1)) (by omega))
 refine qp_end<|fun xs gs hx=>?_
 obtain ⟨⟨A97,c97,e97,hc97,hm97⟩,⟨A99,c99,e99,hc99,hm99⟩,_⟩:=hx
 simp only [selI,ownsA,List.contains_cons,List.contains_nil,Nat.reduceBEq,Nat.reduceAdd,Bool.or_false,Bool.or_true,Bool.false_or,Bool.true_or,mask,nRow,nBlk,nRowT,tupAt_0,tupAt_1,List.append_assoc,List.nil_append,List.append_nil,List.cons_append,List.singleton_append,e97,e99]
 refine VL.keep (kp [0,1,2,6,7,8,13,29,38,10,11,12,93,99] rfl)<|l_storeA 4 rfl rfl rfl sz35 (by with_reducible assumption) (by with_reducible first | exact bys_one _ | exact u32s_one _ | exact u64s_one _ | exact i64s_one _ | exact n64s_one _ | assumption) (by rfl) ?_
 simp only [List.set_cons_zero,List.set_cons_succ]
 refine vl_v (q_assign rfl) rfl<|vl_v (q_assign rfl) rfl<|vl_nil<|qn_n<|th_n<|VC_ret<|⟨_,resCTT 4 rfl U35 rfl rfl rfl sz35 (by with_reducible assumption) rfl rfl,?_⟩
 exact ⟨_,_,rfl,fun w' H=>St.pickR (R:=R) 9 H (ks:=[5,0,8]) (by decide) (by decide) rfl rfl⟩
end Go.Proofs.YtfpdnpppcoomnaaGreat
namespace Go.Proofs.YtfpdnpppcoomnaaGreat
open Go.RowKit Go.PBYtfpdnpppcoomnaaGreat
theorem walkPart {c:List UInt8}:∀ {n:Nat} (j:Nat),j<n→((walkB c n).drop (j*32)).take 32=keyP (chainN c j) tMsg
 | 0,j,h=>by omega
 | n+1,j,h=>by
  have hl:=walkB_length c n
  have hk:=keyP_length (chainN c n) tMsg
  by_cases hj:j=n
  ·subst hj
   rw [walkB,List.drop_left' (by omega),List.take_of_length_le (by omega)]
  ·have ih:=walkPart (c:=c) (n:=n) j (by omega)
   rw [walkB,List.drop_append_of_le_length (by omega),List.take_append_of_le_length (by simp;omega),ih]
end Go.Proofs.YtfpdnpppcoomnaaGreat
namespace Go.Proofs.YtfpdnpppcoomnaaGreat
open Go Go.RowKit Go.PBYtfpdnpppcoomnaaGreat
def skE (pub ch:List UInt8) (j:Nat):Ent:=⟨pub,(j:Int),msgK (chainN ch j)⟩
theorem msgK_length (c:List UInt8):(msgK c).length=32:=keyP_length ..
theorem skE_ok {pub:List UInt8} (ch:List UInt8) {j:Nat} (hp:pub.length=32) (h:j≤1000):(skE pub ch j).ok:=by
 have h1:=msgK_length (chainN ch j)
 unfold skE
 generalize msgK (chainN ch j)=k at h1 ⊢
 exact ⟨hp,h1,wf_small j (by omega)⟩
def skL (pub ch:List UInt8) (n:Nat):List Ent:=(List.range n).map (skE pub ch)
theorem skL_length (pub ch:List UInt8) (n:Nat):(skL pub ch n).length=n:=by simp [skL]
theorem skL_succ (pub ch:List UInt8) (n:Nat):skL pub ch (n+1)=skL pub ch n++[skE pub ch n]:=by simp [skL,List.range_succ]
theorem skL_key {pub ch:List UInt8} {n:Nat} {z:List UInt8 × Int} (h:z∈(skL pub ch n).map Ent.key):∃ j:Nat,j<n∧z=(pub,(j:Int)):=by
 obtain ⟨e,he,rfl⟩:=List.mem_map.1 h
 obtain ⟨j,hj,rfl⟩:=List.mem_map.1 he
 exact ⟨j,List.mem_range.1 hj,rfl⟩
theorem skL_no (pub ch:List UInt8) {n j:Nat} (h:n≤j):(pub,(j:Int))∉(skL pub ch n).map Ent.key:=fun hm=>by
 obtain ⟨i,hi,e⟩:=skL_key hm
 have:=congrArg Prod.snd e
 simp only [Int.ofNat_inj] at this
 omega
theorem skL_good {pub:List UInt8} (ch:List UInt8) (hp:pub.length=32):∀ {n:Nat},n≤1000→GoodL (skL pub ch n)
 | 0,_=>⟨by simp [skL],by simp [skL]⟩
 | n+1,h=>by
  rw [skL_succ]
  exact (skL_good ch hp (n:=n) (by omega)).snoc (skE_ok ch hp (by omega)) (skL_no pub ch (Nat.le_refl n))
theorem skput0_calls {S:List Nat} {w0 w:World} {b m:Nat} {o:Obj} {A:Option Addr} {c:Nat} {R:List Res} {L:List Ent} (pub k:List UInt8) (n:Nat) (hp:pub.length=32) (hk:k.length=32) (hn:n≤1000) (hL:L.length<8) (hG:GoodL L) (hno:(pub,(n:Int))∉L.map Ent.key) (H:St S w0 (SkR b m o A c L++R) w) (hE:MapOf o (mapE L)) :
 Calls Tryz.prog 110 #[vP b 0,.agg (bys pub).toArray,vN n,.agg (bys k).toArray] w fun r w'=>r=.returned (.int .i64 0)∧SkC S w0 b m (L++[⟨pub,(n:Int),k⟩]) R w' :=
 (put_new ⟨pub,(n:Int),k⟩ hp hk (wf_small n (by omega)) H.own hE hG (by show ¬ ((n:Int)<0);omega) hno hL).mono fun r w' h=>⟨h.1,SkC.swap H h.2⟩
theorem skput_calls {S:List Nat} {w0 w:World} {b m:Nat} {o:Obj} {A:Option Addr} {c:Nat} {R:List Res} (pub ch:List UInt8) (n:Nat) (hp:pub.length=32) (hn:n<8) (H:St S w0 (SkR b m o A c (skL pub ch n)++R) w) (hE:MapOf o (mapE (skL pub ch n))) :
 Calls Tryz.prog 110 #[vP b 0,.agg (bys pub).toArray,vN n,.agg (bys (msgK (chainN ch n))).toArray] w fun r w'=>r=.returned (.int .i64 0)∧SkC S w0 b m (skL pub ch (n+1)) R w':=by
 have e:=skL_succ pub ch n
 have hk:=msgK_length (chainN ch n)
 unfold skE at e
 obtain ⟨k,h0⟩:∃ k,msgK (chainN ch n)=k:=⟨_,rfl⟩
 rw [h0] at e hk ⊢
 rw [e]
 exact skput0_calls pub k n hp hk (by omega) (by rw [skL_length];exact hn) (skL_good ch hp (by omega)) (skL_no pub ch (Nat.le_refl n)) H hE
theorem skip13_calls {S:List Nat} {w0:World} {R:List Res} (bt bl bo:Nat) (T:TypeId) (co:List Value) (x:SeD) (ch pub:List UInt8) (n:Nat) (z:SkZ) (hx:x.ok) (hr0:x.r=vP bl 0) (ho0:x.o=vP bo 0) (hst:x.st=vP z.1 0) (hch:ch.length=32) (hpub:pub.length=32) (hco:(co.drop 0).take 32=bys pub) (hn:n<8) (hE:MapOf z.2.2.1 (mapE [])) (w:World) (H:St S w0 ([.blk bt 143 (seC x),.blk bl 153 (liC ch 0),.blk bo T co]++(SkO [] z++R)) w) :
 Calls Tryz.prog 99 #[vP bt 0,vN n] w fun e w'=>∃ (bl':Nat) (o':Obj) (A':Option Addr) (c':Nat),e=.returned (vN 0)∧MapOf o' (mapE (skL pub ch n))∧St S w0 ([.blk bt 143 (seC { x with r:=vP bl' 0 }),.blk bl' 153 (liC (chainN ch n) n),.blk bo T co]++(SkR z.1 z.2.1 o' A' c' (skL pub ch n)++R)) w':=by
 obtain ⟨bz,mz,oz,Az,cz⟩:=z
 dsimp only at hst hE ⊢
 have hwc:=fun w=>walk_calls ch n hch (by omega) w
 have l4:=chainN_length ch hch n
 have lwk:=walkB_length ch n
 obtain ⟨cn,hcn⟩:∃ c,chainN ch n=c:=⟨_,rfl⟩
 rw [hcn] at hwc l4
 have lbn:(bys cn).length=32:=by rw [bys_length];exact l4
 have lbc:(bys ch).length=32:=by rw [bys_length];exact hch
 have lbp:(bys pub).length=32:=by rw [bys_length];exact hpub
 obtain ⟨g1,g2,g3⟩:=liC_f (m:=0) hch
 have hf:SeF (seC x) x []:=by have h:=seC_f hx [];rwa [List.append_nil] at h
 have hxl:=hf.len
 have hg5:=hf.g5
 rw [hr0] at hg5
 have hg2:=hf.g2
 rw [ho0] at hg2
 have hg7:=hf.g7
 rw [hst] at hg7
 have lco:32≤co.length:=by
  have h:=congrArg List.length hco
  rw [lbp,List.length_take,List.length_drop] at h
  omega
 refine enter (n:=70) (R:=fun e L=>∃ (bl':Nat) (o':Obj) (A':Option Addr) (c':Nat),e=.returned (vN 0)∧MapOf o' (mapE (skL pub ch n))∧∀ w',St S w0 L w'→St S w0 ([.blk bt 143 (seC { x with r:=vP bl' 0 }),.blk bl' 153 (liC (chainN ch n) n),.blk bo T co]++(SkR bz mz o' A' c' (skL pub ch n)++R)) w') [vP bt 0,vN n] F99 rfl rfl rfl H ?_ (fun e w' L' h H=>by obtain ⟨bl',o',A',c',h1,h2,h3⟩:=h;exact ⟨bl',o',A',c',h1,h2,h3 w' H⟩)
 refine VC_seq<|VC_region<|vl_v (q_assign rfl) rfl<|vl_nil<|th_n<|VC_seq<|VC_frame (X:=[_,_,_,_,_,_]) (fun w9 H9=>?_)
 refine VC_drawQ 24 6 [[],[0],[1],[2],[3],[4],[5],[],[],[8],[9],[10],[11],[12],[13],[7,14],[6,15],[16],[17],[17],[17],[],[18,16,0,1,2,3,4,5,6,7,8,9,10,11,12,13,14,15,17,21],[21,19,22,0,1,2,3,4,5,6,7,8,9,10,11,12,13,14,15,16,17,18],[20,23,0,1,2,3,4,5,6,7,8,9,10,11,12,13,14,15,16,17,18,19,21,22]] [[],[0],[0,1],[0,1,2],[0,1,2,3],[0,1,2,3,4],[0,1,2,3,4,5],[],[],[8],[8,9],[8,9,10],[8,9,10,11],[8,9,10,11,12],[8,9,10,11,12,13],[7,8,9,10,11,12,13,14],[0,1,2,3,4,5,6,7,8,9,10,11,12,13,14,15],[0,1,2,3,4,5,6,7,8,9,10,11,12,13,14,15,16],[0,1,2,3,4,5,6,7,8,9,10,11,12,13,14,15,16,17],[0,1,2,3,4,5,6,7,8,9,10,11,12,13,14,15,16,17],[0,1,2,3,4,5,6,7,8,9,10,11,12,13,14,15,16,17],[],[0,1,2,3,4,5,6,7,8,9,10,11,12,13,14,15,16,17,18,21],[0,1,2,3,4,5,6,7,8,9,10,11,12,13,14,15,16,17,18,19,21,22],[0,1,2,3,4,5,6,7,8,9,10,11,12,13,14,15,16,17,18,19,20,21,22,23]] [([],[],[],[0,1,2,3,4,5],[]),([0],[],[],[0,1,2,3,4,5],[0]),([0,1],[],[],[0,1,2,3,4,5],[0,1]),([0,1,2],[],[],[0,1,2,3,4,5],[0,1,2]),([0,1,2,3],[],[],[0,1,2,3,4,5],[0,1,2,3]),([0,1,2,3,4],[],[],[0,1,2,3,4,5],[0,1,2,3,4]),([0,1,2,3,4,5],[],[],[0,1,2,3,4,5],[0,1,2,3,4,5]),([],[],[],[0,1,2,3,4,5],[]),([],[],[],[0,1,2,3,4,5],[]),([8],[],[],[0,1,2,3,4,5],[8]),([8,9],[],[],[0,1,2,3,4,5],[8,9]),([8,9,10],[],[],[0,1,2,3,4,5],[8,9,10]),([8,9,10,11],[],[],[0,1,2,3,4,5],[8,9,10,11]),([8,9,10,11,12],[],[],[0,1,2,3,4,5],[8,9,10,11,12]),([8,9,10,11,12,13],[],[],[0,1,2,3,4,5],[8,9,10,11,12,13]),([7,8,9,10,11,12,13,14],[],[],[0,1,2,3,4,5],[7,8,9,10,11,12,13,14]),([0,1,2,3,4,5,6,7,8,9,10,11,12,13,14,15],[],[],[0,1,2,3,4,5],[0,1,2,3,4,5,6,7,8,9,10,11,12,13,14,15]),([0,1,2,3,4,5,6,7,8,9,10,11,12,13,14,15,16],[],[],[0,1,2,3,4,5],[0,1,2,3,4,5,6,7,8,9,10,11,12,13,14,15,16]),([0,1,2,3,4,5,6,7,8,9,10,11,12,13,14,15,16,17],[],[],[0,1,2,3,4,5],[0,1,2,3,4,5,6,7,8,9,10,11,12,13,14,15,16,17]),([0,1,2,3,4,5,6,7,8,9,10,11,12,13,14,15,16,17],[],[],[0,1,2,3,4,5],[0,1,2,3,4,5,6,7,8,9,10,11,12,13,14,15,16,17]),([0,1,2,3,4,5,6,7,8,9,10,11,12,13,14,15,16,17],[],[],[0,1,2,3,4,5],[0,1,2,3,4,5,6,7,8,9,10,11,12,13,14,15,16,17]),([],[],[],[0,1,2,3,4,5],[]),([0,1,2,3,4,5,6,7,8,9,10,11,12,13,14,15,16,17,18,21],[],[],[0,1,2,3,4,5],[0,1,2,3,4,5,6,7,8,9,10,11,12,13,14,15,16,17,18,21]),([0,1,2,3,4,5,6,7,8,9,10,11,12,13,14,15,16,17,18,19,21,22],[],[21],[0,1,2,3,4,5],[0,1,2,3,4,5,6,7,8,9,10,11,12,13,14,15,16,17,18,19,22])] [0,1,2,3,4,5] [0,1,2,3,4,5,6,7,8,9,10,11,12,13,14,15,16,17,18,19,20,22,23] rfl rfl (by kernel_rfl)<|qp_v (fun xs gs hx=>q_move rfl)<|qp_v (fun xs gs hx=>q_nilck rfl)<|qp_v (fun xs gs hx=>q_fldA fo143_5 (by decide) rfl rfl)<|qp_v (fun xs gs hx=>q_load 0 U141 rfl rfl rfl hg5)<|qp_v (fun xs gs hx=>q_nilck rfl)<|qp_v (fun xs gs hx=>q_fldA fo153_0 (by decide) rfl rfl)<|qp_v (fun xs gs hx=>q_loadsAt 1 U33 rfl rfl rfl sz33 g2 lbc)<|qp_v (fun xs gs hx=>q_move rfl)<|qp_v (fun xs gs hx=>q_move rfl)<|qp_v (fun xs gs hx=>q_nilck rfl)<|qp_v (fun xs gs hx=>q_fldA fo143_5 (by decide) rfl rfl) ?_
 refine qp_v (fun xs gs hx=>q_load 0 U141 rfl rfl rfl hg5)<|qp_v (fun xs gs hx=>q_nilck rfl)<|qp_v (fun xs gs hx=>q_fldA fo153_1 (by decide) rfl rfl)<|qp_v (fun xs gs hx=>q_load 1 U3 rfl rfl rfl g3)<|qp_v (fun xs gs hx=>q_as (v:=vN n) (q_sub_n rfl rfl (by omega) (by omega)) (by rw [Nat.sub_zero]))<|qp_a (fun xs gs hx=>q_callT3 F109 rfl rfl rfl (fun w1 H1=>hwc w1))<|qp_v (fun xs gs hx=>q_move rfl)<|qp_v (fun xs gs hx=>q_extX rfl (by obtain ⟨A9,c9,e9,_⟩:=hx.1 rfl;exact ⟨_,_,e9,rfl⟩))<|qp_v (f:=fun _ _=>.agg (bys cn).toArray) (fun xs gs hx=>?_) ?_
 ·obtain ⟨A9,c9,e9,_⟩:=hx.1 rfl
  exact q_ext (vs:=#[.slice A9 n c9,.agg (bys cn).toArray,.int .i64 0]) (congrArg some e9) rfl
 refine qp_v (f:=fun _ _=>.int .i64 0) (fun xs gs hx=>?_) ?_
 ·obtain ⟨A9,c9,e9,_⟩:=hx.1 rfl
  exact q_ext (vs:=#[.slice A9 n c9,.agg (bys cn).toArray,.int .i64 0]) (congrArg some e9) rfl
 refine qp_a (fun xs gs hx=>q_alloc zr33 rfl)<|qp_v (fun xs gs hx=>q_assign rfl) ?_
 refine qp_storeN (fun xs gs hx=>rfl) (fun xs gs hx=>hx.2.1 rfl) (fun xs gs hx=>rfl) (fun xs gs hx=>List.append_nil _) sz33 (fun xs gs hx=>by first | with_reducible assumption | omega | rfl) (fun xs gs hx=>by first | (with_reducible first | exact bys_one _ | exact u32s_one _ | exact u64s_one _ | exact i64s_one _ | exact n64s_one _ | assumption) | exact bys_one _ | exact u32s_one _ | exact u64s_one _ | exact i64s_one _ | exact one_all rfl | (refine app_one ?_ ?_<;>first | exact bys_one _ | exact one_all rfl | (simp;done))) (fun xs gs hx=>by first | with_reducible assumption | omega | rfl) ?_
 refine qp_end<|fun xs gs hx=>?_
 obtain ⟨f27,⟨b6,e6⟩,_,_⟩:=hx
 simp only [selI,ownsA,List.contains_cons,List.contains_nil,Nat.reduceBEq,Nat.reduceAdd,Bool.or_false,Bool.or_true,Bool.false_or,Bool.true_or,mask,nRow,nBlk,nRowT,tupAt_0,tupAt_1,List.append_assoc,List.nil_append,List.append_nil,List.cons_append,List.singleton_append,e6]
 obtain ⟨A27,c27,e27,h27,h27'⟩:=f27
 simp only [e27,tupAt3_0]
 refine VL.keep (kp [0,1,4,30,6,5] rfl)<|vl_v (q_assign rfl) rfl<|vl_nil<|qn_n<|th_n<|VC_seq<|VC_seq<|VC_region<|vl_v (q_move rfl) rfl<|vl_v (q_as (v:=.bool false) (q_neq_k U29 rfl rfl) (by simp)) rfl<|vl_nil<|th_n<|VC_no (rfl) ?_
 refine VC_skip<|th_n<|VC_seq<|VC_seq<|VC_region<|vl_v (q_move rfl) rfl<|vl_v (q_lenS U208 rfl) rfl<|vl_v (q_move rfl) rfl<|vl_nil<|th_n<|VC_block<|VC_loop (ι:=Nat × Obj × Option Addr × Nat) (fun y=>y.1≤n∧MapOf y.2.1 (mapE (skL pub ch y.1))) (fun y=>[(0,vP bt 0),(1,vN n),(6,vP b6 0),(34,.slice A27 n c27),(35,vN n),(36,vN y.1)]) (fun y=>.blk bt 143 (seC x)::.blk bl 153 (liC ch 0)::.blk bo T co::.row 33 32 (.slice A27 n c27) n (bys (walkB ch n))::.blk b6 33 (bys cn)::(SkR bz mz y.2.1 y.2.2.1 y.2.2.2 (skL pub ch y.1)++R)) (fun y=>n-y.1) (0,oz,Az,cz) (⟨Nat.zero_le _,hE⟩) (kp [0,1,6,34,35,36] rfl) (fun w H=>St.pickR (R:=R) 8 H (ks:=[0,1,2,6,7,3,4,5]) (by decide) (by decide) rfl rfl) ?_
 rintro ⟨i,oy,Ay,cy⟩ hp
 obtain ⟨hi,hEy⟩:=hp
 dsimp only at hi hEy
 dsimp only
 simp only [SkR,List.cons_append,List.nil_append]
 refine VC_seq<|VC_region<|vl_v (q_lss_n U3 rfl rfl) rfl<|vl_nil<|th_n<|VC_seq<|VC_cond rfl (fun ht37=>?_) (fun ht37=>?_)
 ·skip
  have hil:i<n:=of_decide_eq_true ht37
  have hkp:((bys (walkB ch n)).drop (i*32)).take 32=bys (msgK (chainN ch i)):=by rw [bys_drop,bys_take,walkPart i hil];rfl
  have lkk:(msgK (chainN ch i)).length=32:=keyP_length ..
  have lbk:(bys (msgK (chainN ch i))).length=32:=by rw [bys_length];exact lkk
  refine VC_skip<|th_n<|VC_seq<|VC_block<|VC_seq<|VC_region<|vl_v (q_move rfl) rfl<|vl_v (q_idxRdN (m:=i) U208 sz33 rfl rfl hil (Reads.row 3 rfl) (by rw [bys_length,lwk];omega)) rfl<|vl_v (q_loadsRd U33 rfl sz33 rfl (Reads.row 3 rfl) hkp lbk (by omega)) rfl<|l_allocA zr33 rfl<|fun b9=>vl_v (q_assign rfl) rfl<|l_storeA 0 rfl rfl rfl sz33 (by with_reducible assumption) (by with_reducible first | exact bys_one _ | exact u32s_one _ | exact u64s_one _ | exact i64s_one _ | exact n64s_one _ | assumption) (by rfl) ?_
  simp only [List.set_cons_zero,List.set_cons_succ]
  refine vl_nil<|th_n<|VC_drawV 20 [[],[0],[1],[2],[],[4],[5],[6],[7],[8],[],[10],[11],[12],[13],[14],[15],[],[16,17],[],[3,9,18,19]] [[],[0],[0,1],[0,1,2],[],[4],[4,5],[4,5,6],[4,5,6,7],[4,5,6,7,8],[],[10],[10,11],[10,11,12],[10,11,12,13],[10,11,12,13,14],[10,11,12,13,14,15],[],[10,11,12,13,14,15,16,17],[],[0,1,2,3,4,5,6,7,8,9,10,11,12,13,14,15,16,17,18,19]] rfl (by kernel_rfl)<|qv_v (q_move rfl)<|qv_v (q_nilck rfl)<|qv_v (q_fldA fo143_7 (by decide) rfl rfl)<|qv_v (q_load 1 U139 rfl rfl rfl hg7)<|qv_v (q_move rfl)<|qv_v (q_nilck rfl)<|qv_v (q_fldA fo143_2 (by decide) rfl rfl)<|qv_v (q_load 1 U138 rfl rfl rfl hg2)<|qv_v (q_nilck rfl) ?_
  refine qv_v (q_loadsAt 3 U33 rfl rfl rfl sz33 hco lbp)<|qv_v (q_move rfl)<|qv_v (q_nilck rfl)<|qv_v (q_fldA fo143_5 (by decide) rfl rfl)<|qv_v (q_load 1 U141 rfl rfl rfl hg5)<|qv_v (q_nilck rfl)<|qv_v (q_fldA fo153_1 (by decide) rfl rfl)<|qv_v (q_load 2 U3 rfl rfl rfl g3)<|qv_v (q_move rfl)<|qv_v (q_as (v:=vN i) (q_add_n rfl rfl (by omega)) (by rw [Nat.zero_add]))<|qv_v (q_loads 0 U33 rfl rfl rfl sz33 (by with_reducible assumption))<|qv_end ?_
  refine VL.keep (kp [0,1,6,34,35,36,37,9,8,44,50,59,60] rfl)<|l_call (F:=fun v L'=>∃ o' A' c',v=vN 0∧MapOf o' (mapE (skL pub ch (i+1)))∧L'=SkR bz mz o' A' c' (skL pub ch (i+1))++(.blk b9 33 (bys (msgK (chainN ch i)))::.blk bt 143 (seC x)::.blk bl 153 (liC ch 0)::.blk bo T co::.row 33 32 (.slice A27 n c27) n (bys (walkB ch n))::.blk b6 33 (bys cn)::R)) F110 rfl rfl rfl (fun w1 H1=>(skput_calls (R:=.blk b9 33 (bys (msgK (chainN ch i)))::.blk bt 143 (seC x)::.blk bl 153 (liC ch 0)::.blk bo T co::.row 33 32 (.slice A27 n c27) n (bys (walkB ch n))::.blk b6 33 (bys cn)::R) pub ch i hpub (by omega) (St.pickR (R:=R) 9 H1 (ks:=[6,7,8,0,1,2,3,4,5]) (by decide) (by decide) rfl rfl) hEy).mono fun e w' h=>?_) rfl ?_
  ·obtain ⟨h1,o',A',c',h2,h3⟩:=h
   exact ⟨_,_,h1,⟨o',A',c',rfl,h2,rfl⟩,h3⟩
  rintro v L' ⟨o1,A1,c1,rfl,hE1,rfl⟩
  simp only [SkR,List.cons_append,List.nil_append]
  refine vl_nil<|(qn_n (bl_n (th_n ?_)))
  refine VC_region<|vl_v (q_add_n (q:=1) rfl rfl (by omega)) rfl<|vl_v (q_move rfl) rfl<|vl_nil<|th_n ?_
  refine ⟨(i+1,o1,A1,c1),⟨hil,hE1⟩,by show n-(i+1)<n-i;omega,(kp [0,1,6,34,35,36] rfl),fun w H=>St.pickR (R:=R) 9 H (ks:=[4,5,6,7,8,0,1,2]) (by decide) (by decide) rfl rfl⟩
 ·skip
  obtain rfl:i=n:=by have:=of_decide_eq_false ht37;omega
  refine VC_exit<|(th_x (th_x (bl_xs (th_n ?_))))
  refine VC_seq<|VC_region<|vl_v (q_move rfl) rfl<|vl_v (q_loads 4 U33 rfl rfl rfl sz33 (by with_reducible assumption)) rfl<|vl_v (q_move rfl) rfl<|vl_v (q_build (c':=liC cn i) rfl (built_li2 l4)) rfl<|l_boxA rfl rfl<|fun b67=>vl_v (q_nilck rfl) rfl<|vl_v (q_fldA fo143_5 (by decide) rfl rfl) rfl<|l_store1 1 rfl rfl rfl sz141 rfl (by rw [hxl];simp) ?_
  simp only [List.set_cons_zero,List.set_cons_succ]
  rw [hf.w5,List.append_nil]
  refine vl_nil<|th_n<|VC_seq<|VC_region<|vl_v (q_assign rfl) rfl<|vl_nil<|th_n<|VC_ret<|⟨_,res1 rfl rfl,?_⟩
  exact ⟨b67,oy,Ay,cy,rfl,hEy,fun w' H=>by rw [hcn];exact St.pickR (R:=R) 9 H (ks:=[1,0,3,6,7,8]) (by decide) (by decide) rfl rfl⟩
def metS (x:SeD) (cm:List UInt8) (l h:Value):SeD:={ x with root:=rootN x.root cm,r:=l,o:=h,t:=true }
theorem headC_one (pub:List UInt8) (p n:Int):∀ u∈headC pub p n,u.oneCell'=true:=by
 intro u hu
 rcases List.mem_append.1 hu with hu | hu
 ·exact bys_one _ u hu
 ·exact one_all rfl u hu
theorem headC_f {pub:List UInt8} (h:pub.length=32) (p n:Int):((headC pub p n).drop 0).take 32=bys pub∧(headC pub p n)[32]?=some (vI p)∧(headC pub p n)[33]?=some (vI n):=by
 obtain ⟨f,rfl⟩:=ofFn_of h
 exact ⟨rfl,rfl,rfl⟩
theorem meet13_calls {S:List Nat} {w0:World} {R:List Res} (bt:Nat) (x:SeD) (s q pub:List UInt8) (p n:Nat) (hx:x.ok) (hr0:x.r=nilP) (hown:x.own=s++q) (ls:s.length=32) (lq:q.length=32) (hpub:pub.length=32) (hc0:comE (comB s pub)=0) (w:World) (H:St S w0 (.blk bt 143 (seC x)::R) w) :
 Calls Tryz.prog 98 #[vP bt 0,.agg (headC pub p n).toArray] w fun e w'=>∃ bl bh:Nat,e=.returned (vN 0)∧St S w0 ([.blk bt 143 (seC (metS x (comB s pub) (vP bl 0) (vP bh 0))),.blk bl 153 (liC (chainN0 x.root (comB s pub)) 0),.blk bh 35 (headC pub p n)]++R) w':=by
 unfold metS
 have hcc:=fun w=>com_calls s q pub ls lq hpub w
 rw [← hown,hc0] at hcc
 have lc:=comB_length s pub
 obtain ⟨cm,hcm⟩:∃ c,comB s pub=c:=⟨_,rfl⟩
 rw [hcm] at hcc lc ⊢
 have l3:(rootN x.root cm).length=32:=keyP_length ..
 have l4:(chainN0 x.root cm).length=32:=keyP_length ..
 have hb1:=built_li l4
 have hrc:=fun w=>root_calls x.root cm hx.root lc w
 obtain ⟨rt,hrt⟩:∃ r,rootN x.root cm=r:=⟨_,rfl⟩
 obtain ⟨nx,hnx⟩:∃ r,chainN0 x.root cm=r:=⟨_,rfl⟩
 have hrc:∀ w,Calls Tryz.prog 88 #[.agg (bys x.root).toArray,.agg (bys cm).toArray] w fun e w'=>e=.returned (.tuple #[.agg (bys rt).toArray,.agg (bys nx).toArray])∧Kept [] w w':=fun w=>by rw [← hrt,← hnx];exact hrc w
 rw [hrt] at l3 ⊢
 rw [hnx] at l4 hb1 ⊢
 have lbc:(bys cm).length=32:=by rw [bys_length];exact lc
 have lbr:(bys rt).length=32:=by rw [bys_length];exact l3
 have lbn:(bys nx).length=32:=by rw [bys_length];exact l4
 have lbo:(bys pub).length=32:=by rw [bys_length];exact hpub
 have lbx:(bys x.root).length=32:=by rw [bys_length];exact hx.root
 have lbw:(bys x.own).length=64:=by rw [bys_length];exact hx.own
 obtain ⟨gh,_,_⟩:=headC_f hpub p n
 have hf:SeF (seC x) x []:=by have h:=seC_f hx [];rwa [List.append_nil] at h
 have hxl:=hf.len
 have hg5:=hf.g5
 rw [hr0] at hg5
 have hx1:SeD.ok { x with root:=rt }:=⟨l3,hx.own,hx.o,hx.s,hx.r,hx.st⟩
 have hf1:SeF (seC { x with root:=rt }) { x with root:=rt } []:=by have h:=seC_f hx1 [];rwa [List.append_nil] at h
 have hx2:∀ b:Nat,SeD.ok { x with root:=rt,r:=vP b 0 }:=fun b=>⟨l3,hx.own,hx.o,hx.s,rfl,hx.st⟩
 have hf2:∀ b:Nat,SeF (seC { x with root:=rt,r:=vP b 0 }) { x with root:=rt,r:=vP b 0 } []:=fun b=>by have h:=seC_f (hx2 b) [];rwa [List.append_nil] at h
 have hx3:∀ b d:Nat,SeD.ok { x with root:=rt,r:=vP b 0,o:=vP d 0 }:=fun b d=>⟨l3,hx.own,rfl,hx.s,rfl,hx.st⟩
 have hf3:∀ b d:Nat,SeF (seC { x with root:=rt,r:=vP b 0,o:=vP d 0 }) { x with root:=rt,r:=vP b 0,o:=vP d 0 } []:=fun b d=>by have h:=seC_f (hx3 b d) [];rwa [List.append_nil] at h
 refine enter (n:=76) (R:=fun e L=>∃ bl bh:Nat,e=.returned (vN 0)∧∀ w',St S w0 L w'→St S w0 ([.blk bt 143 (seC { x with root:=rt,r:=vP bl 0,o:=vP bh 0,t:=true }),.blk bl 153 (liC nx 0),.blk bh 35 (headC pub p n)]++R) w') [vP bt 0,.agg (headC pub p n).toArray] F98 rfl rfl rfl H ?_ (fun e w' L' h H=>by obtain ⟨bl,bh,h1,h2⟩:=h;exact ⟨bl,bh,h1,h2 w' H⟩)
 refine VC_seq<|VC_region<|l_boxA rfl rfl<|fun b3=>vl_v (q_assign rfl) rfl<|vl_nil<|th_n<|VC_seq<|VC_region<|vl_v (q_move rfl) rfl<|vl_v (q_makeFuncB rfl) rfl<|vl_v (q_assign rfl) rfl<|vl_nil ?_
 refine th_n<|VC_seq<|VC_seq<|VC_drawV 15 [[],[0],[1],[2],[3],[4],[5],[6,5],[5],[8,5],[9,5],[10,5],[11,5],[12,5],[13,5],[7,14,5],[5,15]] [[],[0],[0,1],[0,1,2],[0,1,2,3],[0,1,2,3,4],[0,1,2,3,4,5],[0,1,2,3,4,5,6],[0,1,2,3,4,5],[0,1,2,3,4,5,8],[0,1,2,3,4,5,8,9],[0,1,2,3,4,5,8,9,10],[0,1,2,3,4,5,8,9,10,11],[0,1,2,3,4,5,8,9,10,11,12],[0,1,2,3,4,5,8,9,10,11,12,13],[0,1,2,3,4,5,6,7,8,9,10,11,12,13,14],[0,1,2,3,4,5,6,7,8,9,10,11,12,13,14,15]] rfl (by kernel_rfl)<|qv_v (q_move rfl)<|qv_v (q_nilck rfl)<|qv_v (q_fldA fo143_5 (by decide) rfl rfl)<|qv_v (q_load 1 U141 rfl rfl rfl hg5)<|qv_v (q_neNN U141 rfl rfl)<|qv_v (q_move rfl)<|qv_skip rfl<|qv_skip rfl ?_
 refine qv_skip rfl<|qv_skip rfl<|qv_skip rfl<|qv_skip rfl<|qv_skip rfl<|qv_skip rfl<|qv_skip rfl<|qv_end<|VL.keep (kp [0,1,3,4,5,18,20,27] rfl)<|vl_skip rfl rfl<|vl_v (q_pickF rfl rfl) rfl<|vl_nil ?_
 refine qn_n<|th_n<|VC_no (rfl)<|VC_skip<|th_n<|VC_seq<|VC_frame (X:=[_,_]) (fun w9 H9=>?_)
 refine VC_drawQ 12 2 [[],[0],[1],[2],[],[4],[3,5],[6],[7],[7],[],[10,8,6,0,1,2,3,4,5,7],[9,11,0,1,2,3,4,5,6,7,8,10]] [[],[0],[0,1],[0,1,2],[],[4],[0,1,2,3,4,5],[0,1,2,3,4,5,6],[0,1,2,3,4,5,6,7],[0,1,2,3,4,5,6,7],[],[0,1,2,3,4,5,6,7,8,10],[0,1,2,3,4,5,6,7,8,9,10,11]] [([],[],[],[0,1],[]),([0],[],[],[0,1],[0]),([0,1],[],[],[0,1],[0,1]),([0,1,2],[],[],[0,1],[0,1,2]),([],[],[],[0,1],[]),([4],[],[],[0,1],[4]),([0,1,2,3,4,5],[],[],[0,1],[0,1,2,3,4,5]),([0,1,2,3,4,5,6],[],[],[0,1],[0,1,2,3,4,5,6]),([0,1,2,3,4,5,6,7],[],[],[0,1],[0,1,2,3,4,5,6,7]),([0,1,2,3,4,5,6,7],[],[],[0,1],[0,1,2,3,4,5,6,7]),([],[],[],[0,1],[]),([0,1,2,3,4,5,6,7,8,10],[],[10],[0,1],[0,1,2,3,4,5,6,7,8])] [0,1] [0,1,2,3,4,5,6,7,8,9,11] rfl rfl (by kernel_rfl)<|qp_v (fun xs gs hx=>q_move rfl)<|qp_v (fun xs gs hx=>q_nilck rfl)<|qp_v (fun xs gs hx=>q_fldA fo143_1 (by decide) rfl rfl)<|qp_v (fun xs gs hx=>q_loadsAt 1 U60 rfl rfl rfl sz60 hf.g1 lbw)<|qp_v (fun xs gs hx=>q_fldA fo35_0 (by decide) rfl rfl)<|qp_v (fun xs gs hx=>q_loadsAt 0 U33 rfl rfl rfl sz33 gh lbo)<|qp_v (fun xs gs hx=>q_callV F87 rfl rfl rfl (fun w1 H1=>hcc w1))<|qp_v (fun xs gs hx=>q_move rfl)<|qp_v (fun xs gs hx=>q_ext rfl rfl)<|qp_v (fun xs gs hx=>q_ext rfl rfl)<|qp_a (fun xs gs hx=>q_alloc zr33 rfl) ?_
 refine qp_storeN (fun xs gs hx=>rfl) (fun xs gs hx=>hx.1 rfl) (fun xs gs hx=>rfl) (fun xs gs hx=>List.append_nil _) sz33 (fun xs gs hx=>by first | with_reducible assumption | omega | rfl) (fun xs gs hx=>by first | (with_reducible first | exact bys_one _ | exact u32s_one _ | exact u64s_one _ | exact i64s_one _ | exact n64s_one _ | assumption) | exact bys_one _ | exact u32s_one _ | exact u64s_one _ | exact i64s_one _ | exact one_all rfl | (refine app_one ?_ ?_<;>first | exact bys_one _ | exact one_all rfl | (simp;done))) (fun xs gs hx=>by first | with_reducible assumption | omega | rfl) ?_
 refine qp_end<|fun xs gs hx=>?_
 obtain ⟨⟨b7,e7⟩,_,_⟩:=hx
 simp only [selI,ownsA,List.contains_cons,List.contains_nil,Nat.reduceBEq,Nat.reduceAdd,Bool.or_false,Bool.or_true,Bool.false_or,Bool.true_or,mask,nRow,nBlk,nRowT,tupAt_0,tupAt_1,List.append_assoc,List.nil_append,List.append_nil,List.cons_append,List.singleton_append,e7]
 refine VL.keep (kp [0,1,3,4,5,29,46,7] rfl)<|vl_v (q_assign rfl) rfl<|vl_nil<|qn_n<|th_n<|VC_seq<|VC_seq<|VC_region<|vl_v (q_move rfl) rfl<|vl_v (q_as (v:=.bool false) (q_neq_k U29 rfl rfl) (by simp)) rfl<|vl_nil<|th_n<|VC_no (rfl) ?_
 refine VC_skip<|th_n<|VC_seq<|VC_frame (X:=[_,_,_]) (fun w9 H9=>?_)
 refine VC_drawQ 12 3 [[],[0],[1],[2],[],[3,4],[5],[6],[6],[],[],[9,7,5,0,1,2,3,4,6,10],[10,8,11,0,1,2,3,4,5,6,7,9]] [[],[0],[0,1],[0,1,2],[],[0,1,2,3,4],[0,1,2,3,4,5],[0,1,2,3,4,5,6],[0,1,2,3,4,5,6],[],[],[0,1,2,3,4,5,6,7,9,10],[0,1,2,3,4,5,6,7,8,9,10,11]] [([],[],[],[0,1,2],[]),([0],[],[],[0,1,2],[0]),([0,1],[],[],[0,1,2],[0,1]),([0,1,2],[],[],[0,1,2],[0,1,2]),([],[],[],[0,1,2],[]),([0,1,2,3,4],[],[],[0,1,2],[0,1,2,3,4]),([0,1,2,3,4,5],[],[],[0,1,2],[0,1,2,3,4,5]),([0,1,2,3,4,5,6],[],[],[0,1,2],[0,1,2,3,4,5,6]),([0,1,2,3,4,5,6],[],[],[0,1,2],[0,1,2,3,4,5,6]),([],[],[],[0,1,2],[]),([],[],[],[0,1,2],[]),([0,1,2,3,4,5,6,7,9,10],[],[9],[0,1,2],[0,1,2,3,4,5,6,7,10])] [0,1,2] [0,1,2,3,4,5,6,7,8,10,11] rfl rfl (by kernel_rfl)<|qp_v (fun xs gs hx=>q_move rfl)<|qp_v (fun xs gs hx=>q_nilck rfl)<|qp_v (fun xs gs hx=>q_fldA fo143_0 (by decide) rfl rfl)<|qp_v (fun xs gs hx=>q_loadsAt 1 U33 rfl rfl rfl sz33 hf.g0 lbx)<|qp_v (fun xs gs hx=>q_loads 2 U33 rfl rfl rfl sz33 (by with_reducible assumption))<|qp_v (fun xs gs hx=>q_callV F88 rfl rfl rfl (fun w1 H1=>hrc w1))<|qp_v (fun xs gs hx=>q_move rfl)<|qp_v (fun xs gs hx=>q_ext rfl rfl)<|qp_v (fun xs gs hx=>q_ext rfl rfl)<|qp_a (fun xs gs hx=>q_alloc zr33 rfl)<|qp_a (fun xs gs hx=>q_alloc zr33 rfl) ?_
 refine qp_storeN (fun xs gs hx=>rfl) (fun xs gs hx=>hx.1 rfl) (fun xs gs hx=>rfl) (fun xs gs hx=>List.append_nil _) sz33 (fun xs gs hx=>by first | with_reducible assumption | omega | rfl) (fun xs gs hx=>by first | (with_reducible first | exact bys_one _ | exact u32s_one _ | exact u64s_one _ | exact i64s_one _ | exact n64s_one _ | assumption) | exact bys_one _ | exact u32s_one _ | exact u64s_one _ | exact i64s_one _ | exact one_all rfl | (refine app_one ?_ ?_<;>first | exact bys_one _ | exact one_all rfl | (simp;done))) (fun xs gs hx=>by first | with_reducible assumption | omega | rfl) ?_
 refine qp_end<|fun xs gs hx=>?_
 obtain ⟨⟨b9,e9⟩,⟨b10,e10⟩,_,_⟩:=hx
 simp only [selI,ownsA,List.contains_cons,List.contains_nil,Nat.reduceBEq,Nat.reduceAdd,Bool.or_false,Bool.or_true,Bool.false_or,Bool.true_or,mask,nRow,nBlk,nRowT,tupAt_0,tupAt_1,List.append_assoc,List.nil_append,List.append_nil,List.cons_append,List.singleton_append,e9,e10]
 refine VL.keep (kp [0,1,3,4,5,29,7,8,48,58,9,10] rfl)<|l_storeA 3 rfl rfl rfl sz33 (by with_reducible assumption) (by with_reducible first | exact bys_one _ | exact u32s_one _ | exact u64s_one _ | exact i64s_one _ | exact n64s_one _ | assumption) (by rfl) ?_
 simp only [List.set_cons_zero,List.set_cons_succ]
 refine vl_nil<|qn_n<|th_n<|VC_seq<|VC_frame (X:=[_,_,_,_,_]) (fun w9 H9=>?_)
 refine VC_drawQ 18 5 [[],[],[],[],[],[],[5],[6],[],[0,4],[9,0,4],[10,4,0],[1,0,4,5,6,7,9,10,11],[12,0,1,4,5,6,7,9,10,11],[13,7,11,0,1,4,5,6,9,10],[2,0,1,4,5,6,7,8,9,10,11,12,13,14],[15,0,1,2,4,5,6,7,8,9,10,11,12,13,14],[16,8,14,0,1,2,4,5,6,7,9,10,11,12,13],[3,0,1,2,4,5,6,7,8,9,10,11,12,13,14,15,16,17],[18,0,1,2,3,4,5,6,7,8,9,10,11,12,13,14,15,16,17],[19,17,0,1,2,3,4,5,6,7,8,9,10,11,12,13,14,15,16]] [[],[],[],[],[],[],[5],[5,6],[],[0,4],[0,4,9],[0,4,9,10],[0,1,4,5,6,7,9,10,11],[0,1,4,5,6,7,9,10,11,12],[0,1,4,5,6,7,9,10,11,12,13],[0,1,2,4,5,6,7,8,9,10,11,12,13,14],[0,1,2,4,5,6,7,8,9,10,11,12,13,14,15],[0,1,2,4,5,6,7,8,9,10,11,12,13,14,15,16],[0,1,2,3,4,5,6,7,8,9,10,11,12,13,14,15,16,17],[0,1,2,3,4,5,6,7,8,9,10,11,12,13,14,15,16,17,18],[0,1,2,3,4,5,6,7,8,9,10,11,12,13,14,15,16,17,18,19]] [([],[],[],[0,1,2,3,4],[]),([],[],[],[0,2,3,4],[]),([],[],[],[0,2,3,4],[]),([],[],[],[0,2,3,4],[]),([],[],[],[0,1,2,3,4],[]),([],[],[],[0,2,3,4],[]),([5],[],[],[0,2,3,4],[5]),([5,6],[],[],[0,2,3,4],[5,6]),([],[],[],[0,2,3,4],[]),([0,4],[],[],[0,1,2,3,4],[0,4]),([0,4,9],[],[],[0,1,2,3,4],[0,4,9]),([0,4,9,10],[1],[],[0,2,3,4],[0,4,9,10]),([0,1,4,5,6,7,9,10,11],[],[],[0,2,3,4],[0,1,4,5,6,7,9,10,11]),([0,1,4,5,6,7,9,10,11,12],[],[],[0,2,3,4],[0,1,4,5,6,7,9,10,11,12]),([0,1,4,5,6,7,9,10,11,12,13],[],[11],[0,2,3,4],[0,1,4,5,6,7,9,10,12,13]),([0,1,2,4,5,6,7,8,9,10,11,12,13,14],[],[],[0,2,3,4],[0,1,2,4,5,6,7,8,9,10,12,13,14]),([0,1,2,4,5,6,7,8,9,10,11,12,13,14,15],[],[],[0,2,3,4],[0,1,2,4,5,6,7,8,9,10,12,13,14,15]),([0,1,2,4,5,6,7,8,9,10,11,12,13,14,15,16],[],[14],[0,2,3,4],[0,1,2,4,5,6,7,8,9,10,12,13,15,16])] [0,2,3,4] [0,1,2,3,4,5,6,7,8,9,10,12,13,15,16,17] rfl rfl (by kernel_rfl)<|qp_v (fun xs gs hx=>q_move rfl)<|qp_v (fun xs gs hx=>q_move rfl)<|qp_v (fun xs gs hx=>q_move rfl)<|qp_v (fun xs gs hx=>q_move rfl)<|qp_v (fun xs gs hx=>q_loads 4 U33 rfl rfl rfl sz33 (by with_reducible assumption))<|qp_v (fun xs gs hx=>q_loads 2 U33 rfl rfl rfl sz33 (by with_reducible assumption))<|qp_v (fun xs gs hx=>q_build (c':=liC nx 0) rfl hb1)<|qp_a (fun xs gs hx=>q_box (c:=liC nx 0) rfl rfl)<|qp_v (fun xs gs hx=>q_fldA fo35_0 (by decide) rfl rfl)<|qp_v (fun xs gs hx=>q_nilck rfl)<|qp_v (fun xs gs hx=>q_fldA fo143_0 (by decide) rfl rfl) ?_
 refine qp_storeC (j:=0) (c:=fun _ _=>seC x) (c':=fun _ _=>seC { x with root:=rt }) (vs:=fun _ _=>bys rt) (v:=fun _ _=>.agg (bys rt).toArray) (fun xs gs hx=>rfl) (fun xs gs hx=>rfl) (fun xs gs hx=>rfl) (fun xs gs hx=>rfl) sz33 (fun xs gs hx=>lbr) (fun xs gs hx=>bys_one _) (fun xs gs hx=>by rw [hxl];simp) (fun xs gs hx=>(hf.w0 rt l3).trans (List.append_nil _))<|qp_v (fun xs gs hx=>q_nilck rfl)<|qp_v (fun xs gs hx=>q_fldA fo143_5 (by decide) rfl rfl)<|qp_storeC (j:=99) (c:=fun _ _=>seC { x with root:=rt }) (c':=fun xs _=>seC { x with root:=rt,r:=xs 7 }) (vs:=fun xs _=>[xs 7]) (v:=fun xs _=>xs 7) (fun xs gs hx=>rfl) (fun xs gs hx=>rfl) (fun xs gs hx=>by obtain ⟨b,e⟩:=hx.1 rfl;rw [e];rfl) (fun xs gs hx=>rfl) sz141 (fun xs gs hx=>rfl) (fun xs gs hx=>by obtain ⟨b,e⟩:=hx.1 rfl;rw [e];exact one_one rfl) (fun xs gs hx=>by rw [hf1.len];simp) (fun xs gs hx=>by rw [splice_set (by rw [hf1.len];simp)];exact (hf1.w5 _).trans (List.append_nil _))<|qp_v (fun xs gs hx=>q_nilck rfl)<|qp_v (fun xs gs hx=>q_fldA fo143_2 (by decide) rfl rfl)<|qp_storeC (j:=96) (c:=fun xs _=>seC { x with root:=rt,r:=xs 7 }) (c':=fun xs _=>seC { x with root:=rt,r:=xs 7,o:=vP b3 0 }) (vs:=fun xs _=>[vP b3 0]) (v:=fun xs _=>vP b3 0) (fun xs gs hx=>rfl) (fun xs gs hx=>rfl) (fun xs gs hx=>rfl) (fun xs gs hx=>rfl) sz138 (fun xs gs hx=>rfl) (fun xs gs hx=>one_one rfl) (fun xs gs hx=>by obtain ⟨b,e⟩:=hx.1 rfl;rw [e,(hf2 b).len];simp) (fun xs gs hx=>by obtain ⟨b,e⟩:=hx.1 rfl;rw [e,splice_set (by rw [(hf2 b).len];simp)];exact ((hf2 b).w2 _).trans (List.append_nil _))<|qp_end<|fun xs gs hx=>?_
 obtain ⟨⟨b66,e66⟩,fw11,fw14,fw17,_⟩:=hx
 simp only [selI,ownsA,List.contains_cons,List.contains_nil,Nat.reduceBEq,Nat.reduceAdd,Bool.or_false,Bool.or_true,Bool.false_or,Bool.true_or,mask,nRow,nBlk,nRowT,tupAt_0,tupAt_1,List.append_assoc,List.nil_append,List.append_nil,List.cons_append,List.singleton_append,e66]
 refine VL.keep (kp [0,1,3,4,5,29,7,8,48,9,10,62] rfl)<|vl_v (q_nilck rfl) rfl<|vl_v (q_fldA fo143_3 (by decide) rfl rfl) rfl<|l_store1 5 rfl rfl rfl sz4 rfl (by rw [(hf3 b66 b3).len];simp) ?_
 simp only [List.set_cons_zero,List.set_cons_succ]
 rw [(hf3 b66 b3).w3 true,List.append_nil]
 refine vl_nil<|qn_n<|th_n<|VC_seq<|VC_region<|vl_v (q_assign rfl) rfl<|vl_nil<|th_n<|VC_ret<|⟨_,res1 rfl rfl,?_⟩
 exact ⟨b66,b3,rfl,fun w' H=>St.pickR (R:=R) 6 H (ks:=[5,4,0]) (by decide) (by decide) rfl rfl⟩
end Go.Proofs.YtfpdnpppcoomnaaGreat

