/- Words and laws that the proofs of this seat share, part 10 of 10. No condition. -/
import Derived.Test.YtfpdnpppcoomnaaGreatQ40ti
set_option linter.unusedVariables false
set_option linter.unusedSimpArgs false
set_option linter.defProp false
set_option maxRecDepth 100000
set_option maxHeartbeats 16000000
namespace Go.Proofs.YtfpdnpppcoomnaaGreat
open Go Go.RowKit Go.PBYtfpdnpppcoomnaaGreat
theorem flatStamp:Flat Tryz.prog 46 ([.i64]++[.i64]++[.i64]++[.i64]++(List.replicate 32 .u8++List.replicate 32 .u8)) :=
 flat_of (m:=6) laid12 (by omega) (of_decide_eq_true (by kernel_rfl)) (by kernel_rfl) (by kernel_rfl) (by kernel_rfl) (by kernel_rfl) (by kernel_rfl) (by kernel_rfl)
theorem fits_i64 {n:Nat} (h:n≤1000000):Fits [vN n] [.i64]:=by
 refine fits_int ?_
 simp only [Lit.wf,Bool.and_eq_true,decide_eq_true_eq]
 have h1:IntKind.i64.min = -9223372036854775808:=rfl
 have h2:IntKind.i64.max=9223372036854775807:=rfl
 rw [h1,h2]
 omega
theorem stN_fits {x:StN} (h:x.ok):Fits (stN x) ([.i64]++[.i64]++[.i64]++[.i64]++(List.replicate 32 .u8++List.replicate 32 .u8)) :=
 ((((fits_i64 h.e).append (fits_i64 (by have:=h.f;omega))).append (fits_i64 (by have:=h.t;omega))).append (fits_i64 h.ti)).append ((fits_bys' h.cm).append (fits_bys' h.tg))
theorem repSame_calls (id b:Nat) (l op:List UInt8) (x:StN) (A B:Option Addr) (c k:Nat) (hid:id≤1000000) (hb:b<8) (hop:op.length=32) (hx:x.ok) (w:World) (hA:SlAt w A (bys l)) (hB:SlAt w B (bys l)) :
 Calls Tryz.prog 14 #[.agg (repC id b (.slice A l.length c) op x).toArray,.agg (repC id b (.slice B l.length k) op x).toArray] w fun e w'=>e=.returned (.bool true)∧Kept [] w w':=by
 have hf:=repC_f (id:=id) (b:=b) (sl:=.slice A l.length c) hop hx.cm hx.tg
 have hg:=repC_f (id:=id) (b:=b) (sl:=.slice B l.length k) hop hx.cm hx.tg
 have lx:=(stN_f hx.cm hx.tg).len
 have fx:=stN_fits hx
 have lbo:(bys op).length=32:=by rw [bys_length,hop]
 obtain ⟨u,hu⟩:∃ u,repC id b (.slice A l.length c) op x=u:=⟨_,rfl⟩
 obtain ⟨v,hv⟩:∃ v,repC id b (.slice B l.length k) op x=v:=⟨_,rfl⟩
 rw [hu] at hf ⊢
 rw [hv] at hg ⊢
 refine enter (n:=40) (R:=fun e M=>e=.returned (.bool true)) [.agg u.toArray,.agg v.toArray] F14 rfl rfl rfl (St.refl w) ?_ (fun e w' L' h H=>⟨h,H.kept⟩)
 refine VC_seq<|VC_region<|l_boxA rfl rfl<|fun b2=>l_boxA rfl rfl<|fun b3=>vl_v (q_assign rfl) rfl<|vl_nil<|th_n<|VC_seq<|VC_region<|vl_v (q_fldA fo50_0 (by decide) rfl rfl) rfl<|vl_v (q_load 1 U3 rfl rfl rfl hf.g0) rfl<|vl_v (q_fldA fo50_0 (by decide) rfl rfl) rfl ?_
 refine vl_v (q_load 0 U3 rfl rfl rfl hg.g0) rfl<|vl_v (q_as (v:=.bool true) (q_eql_n U3 rfl rfl) (by simp)) rfl<|vl_v (q_move rfl) rfl<|vl_vg rfl (q_fldA fo50_1 (by decide) rfl rfl) rfl<|vl_vg rfl (q_load 1 U3 rfl rfl rfl hf.g1) rfl<|vl_vg rfl (q_fldA fo50_1 (by decide) rfl rfl) rfl<|vl_vg rfl (q_load 0 U3 rfl rfl rfl hg.g1) rfl<|vl_vg rfl (q_as (v:=.bool true) (q_eql_n U3 rfl rfl) (by simp)) rfl<|vl_v (q_pickT rfl rfl) rfl<|vl_v (q_move rfl) rfl<|vl_vg rfl (q_fldA fo50_2 (by decide) rfl rfl) rfl<|vl_vg rfl (q_load 1 U22 rfl rfl rfl hf.g2) rfl ?_
 refine vl_vg rfl (q_str (l:=l) U22 U5 U9 rfl (Reads.old hA) rfl) rfl<|vl_vg rfl (q_fldA fo50_2 (by decide) rfl rfl) rfl<|vl_vg rfl (q_load 0 U22 rfl rfl rfl hg.g2) rfl<|vl_vg rfl (q_str (l:=l) U22 U5 U9 rfl (Reads.old hB) rfl) rfl<|vl_vg rfl (q_as (v:=.bool true) (q_eqStr U9 rfl rfl) (by simp)) rfl<|vl_v (q_pickT rfl rfl) rfl<|vl_v (q_move rfl) rfl<|vl_vg rfl (q_fldA fo50_3 (by decide) rfl rfl) rfl<|vl_vg rfl (q_loadsAt 1 U33 rfl rfl rfl sz33 hf.g3 lbo) rfl<|vl_vg rfl (q_fldA fo50_3 (by decide) rfl rfl) rfl<|vl_vg rfl (q_loadsAt 0 U33 rfl rfl rfl sz33 hg.g3 lbo) rfl<|vl_vg rfl (q_eqT flat32 rfl rfl (fits_bys' hop) rfl) rfl ?_
 refine vl_v (q_pickT rfl rfl) rfl<|vl_v (q_move rfl) rfl<|vl_vg rfl (q_fldA fo50_4 (by decide) rfl rfl) rfl<|vl_vg rfl (q_loadsAt 1 U46 rfl rfl rfl sz46 hf.g4 lx) rfl<|vl_vg rfl (q_fldA fo50_4 (by decide) rfl rfl) rfl<|vl_vg rfl (q_loadsAt 0 U46 rfl rfl rfl sz46 hg.g4 lx) rfl<|vl_vg rfl (q_eqT flatStamp rfl rfl fx rfl) rfl<|vl_v (q_pickT rfl rfl) rfl<|vl_v (q_assign rfl) rfl<|vl_nil<|th_n<|VC_ret ?_
 refine ⟨_,res1 rfl rfl,?_⟩
 exact rfl
theorem repCheck_calls {w0:World} {R:List Res} (br bv bk m ticks now id b:Nat) (o:Obj) (root l op:List UInt8) (x:StN) (kn:Bool) (A:Option Addr) (c:Nat) (hid:id≤1000000) (hb:b<8) (hl:l.length≤250) (hop:op.length=32) (hbt:b=x.t) (hcc:l.length≤c) (hcm:x.cm=comitB op [numB x.f,numB x.t,l]) (hA:Rest [] w0 R A l) (hr:root.length=32) (hx:x.ok) (hep:x.ti / ticks=x.e) (htg:x.tg=tagB root x) (hn:now≤1000000) (h1:x.ti≤now) (h2:now≤x.ti+50) (htk:1≤ticks) (hE:MapOf o (relE x.e (epK root x.e) kn)) (w:World) (H:St [] w0 (RelR br bv bk m o ticks root++R) w) :
 Calls Tryz.prog 15 #[vP br 0,.agg (repC id b (.slice A l.length c) op x).toArray,vN now] w fun e w'=>∃ o':Obj,e=.returned (vN 0)∧MapOf o' (relE x.e (epK root x.e) true)∧St [] w0 (RelR br bv bk m o' ticks root++R) w':=by
 have hf:=repC_f (id:=id) (b:=b) (sl:=.slice A l.length c) hop hx.cm hx.tg
 have hfl:=hf.len
 have hs:=stN_f hx.cm hx.tg
 have lx:=hs.len
 have ox:=hs.one
 have hrc:=fun w=>repRight_calls id b A l.length c op x hid hb hl hop hx w
 have hsc:=fun (R:List Res) w1 H1=>scheck_calls (w0:=w0) (R:=R) br bv bk m ticks now o root x kn hr hx hep htg hn h1 h2 htk hE w1 H1
 have hck:=fun (v0:Value) w1 h1=>ccheck_calls op [numB x.f,numB x.t,l] v0 hop (by simp) (by simp only [joinB,numB,List.length_append,highB_length,List.length_nil,List.length_cons];omega) w1 h1
 rw [← hcm] at hck
 have lbo:(bys op).length=32:=by rw [bys_length,hop]
 have lbc:(bys x.cm).length=32:=by rw [bys_length,hx.cm]
 obtain ⟨rp,hrp⟩:∃ rp,repC id b (.slice A l.length c) op x=rp:=⟨_,rfl⟩
 rw [hrp] at hf hfl hrc ⊢
 refine enter (n:=44) (R:=fun e L=>∃ o':Obj,e=.returned (vN 0)∧MapOf o' (relE x.e (epK root x.e) true)∧∀ w',St [] w0 L w'→St [] w0 (RelR br bv bk m o' ticks root++R) w') [vP br 0,.agg rp.toArray,vN now] F15 rfl rfl rfl H ?_ (fun e w' L' h H=>by obtain ⟨o',h1,h2,h3⟩:=h;exact ⟨o',h1,h2,h3 w' H⟩)
 refine VC_seq<|VC_region<|l_boxA rfl rfl<|fun b4=>vl_v (q_assign rfl) rfl<|vl_nil<|th_n<|VC_seq<|VC_region<|vl_v (q_fldA fo50_4 (by decide) rfl rfl) rfl<|vl_v (q_loadsAt 0 U46 rfl rfl rfl sz46 hf.g4 lx) rfl<|l_allocA zr46 rfl<|fun b7=>l_storeA 0 rfl rfl rfl sz46 (by with_reducible assumption) (by with_reducible first | exact bys_one _ | exact u32s_one _ | exact u64s_one _ | exact i64s_one _ | exact n64s_one _ | assumption) (by rfl) ?_
 simp only [List.set_cons_zero,List.set_cons_succ]
 refine vl_nil<|th_n<|VC_seq<|VC_seq<|VC_region<|vl_v (q_loads 1 U50 rfl rfl rfl sz50 hfl) rfl<|vl_v (q_callV F45 rfl rfl rfl (fun w1 H1=>hrc w1)) rfl<|vl_v (q_not rfl) rfl<|vl_v (q_move rfl) rfl<|vl_vg rfl (q_fldA fo50_1 (by decide) rfl rfl) rfl<|vl_vg rfl (q_load 1 U3 rfl rfl rfl hf.g1) rfl<|vl_vg rfl (q_fldA fo46_2 (by decide) rfl rfl) rfl ?_
 refine vl_vg rfl (q_load 0 U3 rfl rfl rfl hs.g2) rfl<|vl_vg rfl (q_as (v:=.bool false) (q_neq_n U3 rfl rfl) (by rw [hbt,decide_eq_true rfl];rfl)) rfl<|vl_v (q_pickF rfl rfl) rfl<|vl_nil<|th_n<|VC_no (rfl)<|VC_skip<|th_n<|VC_seq<|VC_seq<|VC_region<|vl_v (q_move rfl) rfl ?_
 refine vl_v (q_loads 0 U46 rfl rfl rfl sz46 lx) rfl<|vl_v (q_move rfl) rfl<|l_call (F:=fun v L'=>∃ o':Obj,v=vN 0∧MapOf o' (relE x.e (epK root x.e) true)∧L'=RelR br bv bk m o' ticks root++([.blk b7 46 (stN x),.blk b4 50 rp]++R)) F51 rfl rfl rfl (fun w1 H1=>(hsc ([Res.blk b7 46 (stN x),.blk b4 50 rp]++R) w1 (St.pickR (R:=R) 6 H1 (ks:=[2,3,4,5,0,1]) (by decide) (by decide) rfl rfl)).mono fun e w' h=>?_) rfl ?_
 ·obtain ⟨o',h1,h2,h3⟩:=h
  exact ⟨_,_,h1,⟨o',rfl,h2,rfl⟩,h3⟩
 rintro v L' ⟨o1,rfl,hE1,rfl⟩
 simp only [RelR,List.cons_append,List.nil_append]
 refine vl_v (q_assign rfl) rfl<|vl_nil<|th_n<|VC_seq<|VC_region<|vl_v (q_move rfl) rfl<|vl_v (q_as (v:=.bool false) (q_neq_k U29 rfl rfl) (by simp)) rfl<|vl_nil<|th_n<|VC_no (rfl)<|VC_skip<|th_n ?_
 refine VC_seq<|VC_region<|vl_v (q_fldA fo46_4 (by decide) rfl rfl) rfl<|vl_v (q_loadsAt 4 U33 rfl rfl rfl sz33 hs.g4 lbc) rfl<|vl_v (q_fldA fo50_3 (by decide) rfl rfl) rfl<|vl_v (q_loadsAt 5 U33 rfl rfl rfl sz33 hf.g3 lbo) rfl<|vl_v (q_fldA fo46_1 (by decide) rfl rfl) rfl<|vl_v (q_load 4 U3 rfl rfl rfl hs.g1) rfl<|vl_v (q_conv_nu8 U3 U5 rfl) rfl<|l_litA (cs:=bys [_]) U22 in5 (by decide) rfl rfl rfl rfl (by exact one_all rfl) rfl rfl<|fun b35=>vl_v (q_fldA fo46_2 (by decide) rfl rfl) rfl<|vl_v (q_load 5 U3 rfl rfl rfl hs.g2) rfl ?_
 refine vl_v (q_conv_nu8 U3 U5 rfl) rfl<|l_litA (cs:=bys [_]) U22 in5 (by decide) rfl rfl rfl rfl (by exact one_all rfl) rfl rfl<|fun b39=>vl_v (q_fldA fo50_2 (by decide) rfl rfl) rfl<|vl_v (q_load 7 U22 rfl rfl rfl hf.g2) rfl<|l_litA (cs:=[.slice (some ⟨b35,0,none⟩) 1 1,.slice (some ⟨b39,0,none⟩) 1 1,.slice A l.length c]) U23 in22 (by decide) rfl rfl rfl rfl (one_all rfl) rfl rfl<|fun b42=>vl_v (q_callV F16 rfl rfl rfl (fun w1 H1=>hck _ w1 (rowsAt3 (Reads.row 0 rfl w1 H1) (by omega) (bsAt_of rfl (by simp [numB]) (Reads.row 2 rfl w1 H1)) (bsAt_of rfl (by simp [numB]) (Reads.row 1 rfl w1 H1)) (bsAt_of rfl hcc (hA [_,_,_,_,_,_,_,_,_] w1 H1))))) rfl<|vl_v (q_assign rfl) rfl<|vl_nil<|th_n<|VC_ret<|⟨_,res1 rfl rfl,?_⟩
 exact ⟨o1,rfl,hE1,fun w' H=>St.pickR (R:=R) 9 H (ks:=[3,4,5,6]) (by decide) (by decide) rfl rfl⟩
end Go.Proofs.YtfpdnpppcoomnaaGreat
namespace Go.PBYtfpdnpppcoomnaaGreat
open Go Go.RowKit
def lN:Nat:=7237005577332262213973186563042994240857116359379907606001950938285454250989
def sl (i:Nat):Bool:=lN / 2^i % 2==1
theorem vb_sl:vb sl 255=lN:=by decide +kernel
theorem lad_sl:(ladF (fz 9) g24 sl (beg (fz 9)) 255).2.2.1=0:=by decide +kernel
theorem pB_m:1-pB.2≠0:=by decide +kernel
theorem pB_p:1+pB.2≠0:=by decide +kernel
theorem pB_ne:pB≠pO:=by decide +kernel
theorem pt_one {P:Pt} (hP:onE P) (h:P.2=1):P=pO:=Prod.ext (x_zero hP (by rw [h];decide +kernel)) h
theorem ord_l:pmul lN pB=pO:=by
 have h:=(lad_rel pB_on (pB_mu ▸ mu_rel pB_m) pB_m pB_p sl 255).1
 rw [vb_sl,lad_sl] at h
 obtain ⟨h1,h2⟩:=h
 refine pt_one (pmul_on pB_on _) ?_
 have h3:(ladF (fz 9) g24 sl (beg (fz 9)) 255).1≠0:=fun h0=>h1 ⟨h0,rfl⟩
 generalize (ladF (fz 9) g24 sl (beg (fz 9)) 255).1=a at h2 h3
 generalize (pmul lN pB).2=y at h2 ⊢
 have h4:a*(1-y)=0:=by rw [h2];grind
 rcases mul_zero_or h4 with h4 | h4
 ·exact absurd h4 h3
 ·grind
theorem pmul_gcd {Q:Pt} (hQ:onE Q) (m n:Nat):pmul m Q=pO→pmul n Q=pO→pmul (Nat.gcd m n) Q=pO:=by
 induction m,n using Nat.gcd.induction with
 | H0 n=>intro _ h;simpa using h
 | H1 m n hm ih =>
  intro h1 h2
  rw [Nat.gcd_rec]
  refine ih ?_ h1
  have e:n % m+m*(n / m)=n:=Nat.mod_add_div n m
  have h3:=pmul_add hQ (n % m) (m*(n / m))
  rw [e,h2,Nat.mul_comm,pmul_mul hQ,h1,pmul_O,padd_O] at h3
  exact h3.symm
theorem pr_l:Pr lN:=pr7237005577332262213973186563042994240857116359379907606001950938285454250989
theorem pr_gcd {p n:Nat} (hp:Pr p) (h:¬ p ∣ n):Nat.gcd n p=1:=by
 rcases hp.2 _ (Nat.gcd_dvd_right n p) with h1 | h1
 ·exact h1
 ·exact absurd (h1 ▸ Nat.gcd_dvd_left n p) h
theorem ord_dvd {n:Nat} (h:pmul n pB=pO):lN ∣ n:=by
 have h1:=pmul_gcd pB_on n lN h ord_l
 by_cases hd:lN ∣ n
 ·exact hd
 exfalso
 have hg:Nat.gcd n lN=1:=pr_gcd pr_l hd
 rw [hg,pmul_one] at h1
 exact pB_ne h1
theorem vb_lt (s:Nat→Bool):∀ j,vb s j<2^j
 | 0=>by show 0<1;omega
 | j+1=>by
  have ih:=vb_lt s j
  rw [vb,Nat.pow_succ]
  split<;>omega
theorem vb_ge {s:Nat→Bool} (h:s 254=true):∀ j,2^j≤vb s (j+1)
 | 0=>by rw [vb,vb,show 254-0=254 from rfl,h];decide
 | j+1=>by
  have ih:=vb_ge h j
  rw [vb,Nat.pow_succ]
  split<;>omega
theorem kv_8 (k:List UInt8):∃ m,kv k=8*m∧0<m∧m<2^252:=by
 refine ⟨vb (sbit k) 252,?_,?_,vb_lt _ _⟩
 ·unfold kv
  rw [show (255:Nat)=252+1+1+1 from rfl,vb,vb,vb]
  rw [show sbit k (254-(252+1+1))=false from rfl,show sbit k (254-(252+1))=false from rfl,show sbit k (254-252)=false from rfl]
  simp only [Bool.false_eq_true,if_false]
  omega
 ·have h:=vb_ge (s:=sbit k) rfl 251
  have:0<2^251:=Nat.pow_pos (by omega)
  show 0<vb (sbit k) (251+1)
  omega
theorem l_kv (k:List UInt8):¬ lN ∣ kv k:=by
 obtain ⟨m,h1,h2,h3⟩:=kv_8 k
 rw [h1]
 intro h
 rcases pr_l.euclid h with h | h
 ·exact absurd (Nat.le_of_dvd (by omega) h) (by decide)
 ·have:=Nat.le_of_dvd h2 h
  have h4:(2:Nat)^252≤lN:=by decide +kernel
  omega
theorem two_ne_l:¬ lN ∣ 2:=fun h=>absurd (Nat.le_of_dvd (by omega) h) (by decide)
theorem mu_ne {n:Nat} (h:¬ lN ∣ n):mu (pmul n pB).2≠0:=by
 intro h0
 have hon:=pmul_on pB_on n
 unfold mu at h0
 rcases mul_zero_or h0 with h1 | h1
 ·have hy:(pmul n pB).2 = -1:=by grind
  have hx:=x_zero hon (by rw [hy];decide +kernel)
  have hP:pmul n pB=(0,-1):=Prod.ext hx hy
  have h2:pmul (2*n) pB=pO:=by rw [pmul_two pB_on,hP,two_half]
  rcases pr_l.euclid (ord_dvd h2) with h3 | h3
  ·exact two_ne_l h3
  ·exact h h3
 ·by_cases h2:1-(pmul n pB).2=0
  ·exact h (ord_dvd (pt_one hon (by grind)))
  ·exact finv_ne h2 h1
theorem xm_two_ne (k l:List UInt8):xm (sbit k) (xm (sbit l) (fz 9))≠0:=by
 rw [xm_base,xm_pt]
 refine mu_ne fun h=>?_
 rcases pr_l.euclid h with h | h
 ·exact l_kv k h
 ·exact l_kv l h
theorem kf_ne {a:Fp} (h:a≠0):kf a≠List.replicate 32 0:=by
 intro h0
 have h1:=lf_kf a
 rw [h0,show lf (List.replicate 32 0)=0 by decide +kernel] at h1
 exact h h1.symm
end Go.PBYtfpdnpppcoomnaaGreat
namespace Go.Proofs.YtfpdnpppcoomnaaGreat
open Go Go.RowKit Go.PBYtfpdnpppcoomnaaGreat
theorem com_two (s t:List UInt8):comB s (pubB t)=comB t (pubB s):=by
 unfold comB pubB
 rw [lf_kf,lf_kf,show lf (smallB 9)=fz 9 from lf_small 9,xm_two]
theorem com_two_ne (s t:List UInt8):comE (comB s (pubB t))=0:=by
 refine if_neg ?_
 unfold comB pubB
 rw [lf_kf,show lf (smallB 9)=fz 9 from lf_small 9]
 exact kf_ne (xm_two_ne s t)
def kA:List UInt8:=[74,13,18,152,115,64,48,55,194,205,155,144,72,32,54,135,246,35,63,182,115,137,86,224,52,155,212,50,15,236,62,144]
def kB:List UInt8:=[4,68,158,146,201,167,101,126,242,214,119,184,239,157,164,108,8,143,19,87,94,168,135,228,129,143,196,85,162,188,165,0]
theorem sum_a:sumB [97]=kA:=by decide +kernel
theorem sum_b:sumB [98]=kB:=by decide +kernel
theorem laA:(ladF (fz 9) g24 (sbit kA) (beg (fz 9)) 255).1*(ladF (fz 9) g24 (sbit kB) (beg (fz 9)) 255).2.2.1-(ladF (fz 9) g24 (sbit kB) (beg (fz 9)) 255).1*(ladF (fz 9) g24 (sbit kA) (beg (fz 9)) 255).2.2.1≠0:=by decide +kernel
theorem laC:(ladF (fz 9) g24 (sbit kA) (beg (fz 9)) 255).2.2.1≠0:=by decide +kernel
theorem laD:(ladF (fz 9) g24 (sbit kB) (beg (fz 9)) 255).2.2.1≠0:=by decide +kernel
theorem pub_ne:pubB (sumB [97])≠pubB (sumB [98]):=by
 rw [sum_a,sum_b]
 intro h
 unfold pubB at h
 have h1:=congrArg lf h
 rw [lf_kf,lf_kf,show lf (smallB 9)=fz 9 from lf_small 9] at h1
 unfold xm at h1
 have h2:=mul_finv laC
 have h3:=mul_finv laD
 refine laA ?_
 generalize (ladF (fz 9) g24 (sbit kA) (beg (fz 9)) 255).1=a at *
 generalize (ladF (fz 9) g24 (sbit kB) (beg (fz 9)) 255).1=b at *
 generalize (ladF (fz 9) g24 (sbit kA) (beg (fz 9)) 255).2.2.1=c at *
 generalize (ladF (fz 9) g24 (sbit kB) (beg (fz 9)) 255).2.2.1=d at *
 generalize finv c=e at *
 generalize finv d=f at *
 grind
theorem pair_part {s p:List UInt8} (hs:s.length=32) (hp:p.length=32):((bys (s++p)).drop 0).take 32=bys s∧((bys (s++p)).drop 32).take 32=bys p:=by
 constructor
 ·rw [List.drop_zero,bys_take,List.take_left' hs]
 ·rw [bys_drop,bys_take,List.drop_left' hs,List.take_of_length_le (by omega)]
theorem common_calls (w:World):Calls Tryz.prog 4 #[] w fun e w'=>e=.returned (.bool true)∧Kept [] w w':=by
 have hca:=fun B cb w h1 h2=>pair_calls [97] B 1 cb rfl (by decide) w h1 h2
 have hcb:=fun B cb w h1 h2=>pair_calls [98] B 1 cb rfl (by decide) w h1 h2
 have hne:=pub_ne
 have hcc:=com_two (sumB [97]) (sumB [98])
 have l1:=sumB_length [97]
 have l2:=sumB_length [98]
 have l3:(pubB (sumB [97])).length=32:=kf_length _
 have l4:(pubB (sumB [98])).length=32:=kf_length _
 unfold pairB at hca hcb
 obtain ⟨sa,hsa⟩:∃ s,sumB [97]=s:=⟨_,rfl⟩
 obtain ⟨sb,hsb⟩:∃ s,sumB [98]=s:=⟨_,rfl⟩
 rw [hsa] at hca hne hcc l1 l3
 rw [hsb] at hcb hne hcc l2 l4
 clear hsa hsb
 obtain ⟨pa,hpa⟩:∃ s,pubB sa=s:=⟨_,rfl⟩
 obtain ⟨pb,hpb⟩:∃ s,pubB sb=s:=⟨_,rfl⟩
 rw [hpa] at hca hne hcc l3
 rw [hpb] at hcb hne hcc l4
 clear hpa hpb
 have hm1:∀ w,Calls Tryz.prog 19 #[.agg (bys sa).toArray,.agg (bys pb).toArray] w fun e w'=>e=.returned (.agg (bys (comB sa pb)).toArray)∧Kept [] w w':=fun w=>mult_calls sa pb l1 l4 w
 have hm2:∀ w,Calls Tryz.prog 19 #[.agg (bys sb).toArray,.agg (bys pa).toArray] w fun e w'=>e=.returned (.agg (bys (comB sb pa)).toArray)∧Kept [] w w':=fun w=>mult_calls sb pa l2 l3 w
 rw [← hcc] at hm2
 have lc:=comB_length sa pb
 obtain ⟨c,hc⟩:∃ c,comB sa pb=c:=⟨_,rfl⟩
 rw [hc] at hm1 hm2 lc
 clear hc hcc
 obtain ⟨ja1,ja2⟩:=pair_part l1 l3
 obtain ⟨jb1,jb2⟩:=pair_part l2 l4
 have e1:(bys (sa++pa)).length=64:=by rw [bys_length,List.length_append];omega
 have e2:(bys (sb++pb)).length=64:=by rw [bys_length,List.length_append];omega
 obtain ⟨ua,hua⟩:∃ u,bys (sa++pa)=u:=⟨_,rfl⟩
 obtain ⟨ub,hub⟩:∃ u,bys (sb++pb)=u:=⟨_,rfl⟩
 have oa:∀ v∈ua,v.oneCell'=true:=hua ▸ bys_one _
 have ob:∀ v∈ub,v.oneCell'=true:=hub ▸ bys_one _
 rw [hua] at hca ja1 ja2 e1
 rw [hub] at hcb jb1 jb2 e2
 have k1:(bys sa).length=32:=by rw [bys_length];exact l1
 have k2:(bys sb).length=32:=by rw [bys_length];exact l2
 have k3:(bys pa).length=32:=by rw [bys_length];exact l3
 have k4:(bys pb).length=32:=by rw [bys_length];exact l4
 have lz:(bys (List.replicate 32 0)++bys (List.replicate 32 0)).length=64:=by simp [bys_length]
 refine enter (n:=27) (R:=fun e L=>e=.returned (.bool true)) [] F4 rfl rfl rfl (St.refl w) ?_ (fun e w' L' h H=>⟨h,H.kept⟩)
 refine VC_seq<|VC_region<|vl_v (q_assign rfl) rfl<|vl_nil<|th_n<|VC_seq<|VC_region<|l_litA (cs:=bys [UInt8.ofNat 97]) U22 in5 (by decide) rfl rfl rfl rfl (by exact one_all rfl) rfl rfl<|fun b3=>l_convS 0 U22 U5 rfl rfl rfl<|vl_v (q_callV F18 rfl rfl rfl (fun w1 H1=>hca _ _ w1 (Reads.row 0 rfl w1 H1) (by decide))) rfl<|l_allocA zr60 rfl<|fun b1=>l_storeA 0 rfl rfl rfl sz60 (by with_reducible assumption) (by with_reducible first | exact bys_one _ | exact u32s_one _ | exact u64s_one _ | exact i64s_one _ | exact n64s_one _ | assumption) (by with_reducible assumption) ?_
 simp only [List.set_cons_zero,List.set_cons_succ]
 refine vl_nil<|th_n<|VC_seq<|VC_region<|l_litA (cs:=bys [UInt8.ofNat 98]) U22 in5 (by decide) rfl rfl rfl rfl (by exact one_all rfl) rfl rfl<|fun b6=>l_convS 0 U22 U5 rfl rfl rfl<|vl_v (q_callV F18 rfl rfl rfl (fun w1 H1=>hcb _ _ w1 (Reads.row 0 rfl w1 H1) (by decide))) rfl<|l_allocA zr60 rfl<|fun b2=>l_storeA 0 rfl rfl rfl sz60 (by with_reducible assumption) (by with_reducible first | exact bys_one _ | exact u32s_one _ | exact u64s_one _ | exact i64s_one _ | exact n64s_one _ | assumption) (by with_reducible assumption) ?_
 simp only [List.set_cons_zero,List.set_cons_succ]
 refine vl_nil<|th_n<|VC_seq<|VC_drawV 16 [[],[0],[],[2],[1,3],[],[5],[],[7],[6,8,4],[4,9],[10,9],[11],[12,11],[11],[14,11],[13,15,11],[11,16],[17,11,0,1,2,3,4,5,6,7,8,9,10,12,13,14,15,16]] [[],[0],[],[2],[0,1,2,3],[],[5],[],[7],[0,1,2,3,4,5,6,7,8],[0,1,2,3,4,5,6,7,8,9],[0,1,2,3,4,5,6,7,8,9,10],[0,1,2,3,4,5,6,7,8,9,10,11],[0,1,2,3,4,5,6,7,8,9,10,11,12],[0,1,2,3,4,5,6,7,8,9,10,11],[0,1,2,3,4,5,6,7,8,9,10,11,14],[0,1,2,3,4,5,6,7,8,9,10,11,12,13,14,15],[0,1,2,3,4,5,6,7,8,9,10,11,12,13,14,15,16],[0,1,2,3,4,5,6,7,8,9,10,11,12,13,14,15,16,17]] rfl (by kernel_rfl)<|qv_v (q_fldA fo60_0 (by decide) rfl rfl)<|qv_v (q_loadsAt 2 U33 rfl rfl rfl sz33 ja1 k1)<|qv_v (q_fldA fo60_1 (by decide) rfl rfl)<|qv_v (q_loadsAt 0 U33 rfl rfl rfl sz33 jb2 k4)<|qv_v (q_callV F19 rfl rfl rfl (fun w1 H1=>hm1 w1))<|qv_v (q_fldA fo60_0 (by decide) rfl rfl)<|qv_v (q_loadsAt 0 U33 rfl rfl rfl sz33 jb1 k2)<|qv_v (q_fldA fo60_1 (by decide) rfl rfl) ?_
 refine qv_v (q_loadsAt 2 U33 rfl rfl rfl sz33 ja2 k3)<|qv_v (q_callV F19 rfl rfl rfl (fun w1 H1=>hm2 w1))<|qv_v (q_eqT flat32 rfl rfl (fits_bys' lc) rfl)<|qv_v (q_move rfl)<|qv_vg (rfl) (q_fldA fo60_1 (by decide) rfl rfl)<|qv_vg (rfl) (q_loadsAt 2 U33 rfl rfl rfl sz33 ja2 k3)<|qv_vg (rfl) (q_fldA fo60_1 (by decide) rfl rfl)<|qv_vg (rfl) (q_loadsAt 0 U33 rfl rfl rfl sz33 jb2 k4)<|qv_end<|VL.keep (kp [0,1,2,20,22,24] rfl)<|vl_vg rfl (q_as (v:=.bool true) (q_neB flat32 rfl rfl (fits_bys' l3) (fits_bys' l4)) (by rw [decide_eq_false hne];rfl)) rfl<|vl_v (q_pickT rfl rfl) rfl ?_
 refine vl_v (q_assign rfl) rfl<|vl_nil<|qn_n<|th_n<|VC_ret<|⟨_,res1 rfl rfl,?_⟩
 exact rfl
def tOwn:List UInt8:=[111,119,110]
def xA0 (seed:List UInt8) (bl bo d:Nat):SeD:=turnS ⟨smallB 3,z64,vP bo 0,false,nilP,nilP,0,vP d 0⟩ (pubB (sumB tOwn)) (keyB seed 0) (vP bl 0)
def xB0 (d:Nat):SeD:=⟨smallB 3,sumB tOwn++pubB (sumB tOwn),nilP,false,nilP,nilP,0,vP d 0⟩
def chA (seed:List UInt8):List UInt8:=chainN0 (smallB 3) (comB (sumB (keyB seed 0)) (pubB (sumB tOwn)))
theorem begun_calls (seed:List UInt8) (B:Option Addr) (k:Nat) (hb:seed.length≤140737488355328) (w:World) (hB:SlAt w B (bys seed)) :
 Calls Tryz.prog 5 #[.slice B seed.length k] w fun e w'=>∃ (fa sa la oa da fb sb q:Nat) (z:SkZ),e=.returned (.agg #[vP fa 0,vP fb 0])∧MapOf z.2.2.1 (mapE [])∧St [] w ([.blk fa 85 (lineC 0 1 sa),.blk sa 145 (seC (xA0 seed la oa da)++[vP q 0]),.blk la 153 (liC (chA seed) 0),.blk fb 85 (lineC 1 0 sb),.blk sb 145 (seC (xB0 z.1)++[vP q 0])]++SkO [] z) w':=by
 have hpc:=fun B cb w h1 h2=>pair_calls tOwn B 3 cb rfl (by decide) w h1 h2
 have l1:=sumB_length tOwn
 have l2:(pubB (sumB tOwn)).length=32:=kf_length _
 have hc0:=com_two_ne (sumB (keyB seed 0)) (sumB tOwn)
 unfold pairB at hpc
 unfold xA0 xB0 chA
 obtain ⟨so,hso⟩:∃ s,sumB tOwn=s:=⟨_,rfl⟩
 rw [hso] at hpc l1 l2 hc0 ⊢
 obtain ⟨qo,hqo⟩:∃ s,pubB so=s:=⟨_,rfl⟩
 rw [hqo] at hpc l2 hc0 ⊢
 obtain ⟨jb1,jb2⟩:=pair_part l1 l2
 have e1:(bys (so++qo)).length=64:=by rw [bys_length,List.length_append];omega
 have l64:(so++qo).length=64:=by rw [List.length_append];omega
 have k2:(bys qo).length=32:=by rw [bys_length];exact l2
 have l3:(smallB 3).length=32:=smallB_length 3
 have hbc:=fun (bq:Nat) (y:Option Addr × Nat) (R:List Res) w1 H1=>begin13_calls (w0:=w) (R:=R) bq (smallB 3) qo seed y 0 l3 l2 hb (by omega) hc0 w1 H1
 have hac:=fun (a:Nat) (R:List Res) w1 H1=>answer13_calls (w0:=w) (R:=R) a (smallB 3) (so++qo) l3 l64 w1 H1
 have hq3:Tryz.prog.built 33 [(0,.int .u8 3)]=some (bys (smallB 3)).toArray:=by kernel_rfl
 obtain ⟨k3,hk3⟩:∃ s,smallB 3=s:=⟨_,rfl⟩
 rw [hk3] at hbc hac hq3 l3 ⊢
 obtain ⟨up,hup⟩:∃ u,bys (so++qo)=u:=⟨_,rfl⟩
 have ou:∀ v∈up,v.oneCell'=true:=hup ▸ bys_one _
 rw [hup] at hpc hac jb1 jb2 e1
 have lz:(bys (List.replicate 32 0)++bys (List.replicate 32 0)).length=64:=by simp [bys_length]
 refine enter (n:=54) (R:=fun e L=>∃ (fa sa la oa da fb sb q:Nat) (z:SkZ),e=.returned (.agg #[vP fa 0,vP fb 0])∧MapOf z.2.2.1 (mapE [])∧∀ w',St [] w L w'→St [] w ([.blk fa 85 (lineC 0 1 sa),.blk sa 145 (seC (turnS ⟨k3,z64,vP oa 0,false,nilP,nilP,0,vP da 0⟩ qo (keyB seed 0) (vP la 0))++[vP q 0]),.blk la 153 (liC (chainN0 k3 (comB (sumB (keyB seed 0)) qo)) 0),.blk fb 85 (lineC 1 0 sb),.blk sb 145 (seC ⟨k3,so++qo,nilP,false,nilP,nilP,0,vP z.1 0⟩++[vP q 0])]++SkO [] z) w') [.slice B seed.length k] F5 rfl rfl rfl (St.refl w) ?_ (fun e w' L' h H=>by obtain ⟨fa,sa,la,oa,da,fb,sb,q,z,h1,h2,h3⟩:=h;exact ⟨fa,sa,la,oa,da,fb,sb,q,z,h1,h2,h3 w' H⟩)
 refine VC_seq<|VC_region<|l_allocA zr26 rfl<|fun b2=>vl_nil<|th_n<|VC_seq<|VC_region<|vl_v (q_move rfl) rfl<|l_callG F20 rfl rfl rfl (fun w1 H1=>snew_any seed B k hb w1 (Reads.old hB w1 H1)) rfl<|fun x12=>vl_v (q_assign rfl) rfl<|vl_nil<|th_n ?_
 refine VC_seq<|VC_seq<|VC_region<|vl_v (q_move rfl) rfl<|vl_v (q_eqPN U63 rfl rfl) rfl<|vl_nil<|th_n<|VC_no (rfl)<|VC_skip<|th_n<|VC_seq<|VC_region ?_
 refine l_litA (cs:=bys [UInt8.ofNat 111,UInt8.ofNat 119,UInt8.ofNat 110]) U22 in5 (by decide) rfl rfl rfl rfl (by exact one_all rfl) rfl rfl<|fun b16=>l_convS 0 U22 U5 rfl rfl rfl<|vl_v (q_callV F18 rfl rfl rfl (fun w1 H1=>hpc _ _ w1 (Reads.row 0 rfl w1 H1) (by decide))) rfl<|l_allocA zr60 rfl<|fun b4=>l_storeA 0 rfl rfl rfl sz60 (by with_reducible assumption) (by with_reducible first | exact bys_one _ | exact u32s_one _ | exact u64s_one _ | exact i64s_one _ | exact n64s_one _ | assumption) (by with_reducible assumption) ?_
 simp only [List.set_cons_zero,List.set_cons_succ]
 refine vl_nil<|th_n<|VC_seq<|VC_region<|vl_v (q_build (c':=bys k3) rfl hq3) rfl<|vl_v (q_fldA fo60_1 (by decide) rfl rfl) rfl<|vl_v (q_loadsAt 0 U33 rfl rfl rfl sz33 jb2 k2) rfl<|vl_v (q_move rfl) rfl<|l_call (F:=fun v L'=>∃ (bs bl bo:Nat) (z:SkZ),v=.tuple #[vP bs 0,vN 0]∧L'=[.blk bs 145 (seC (turnS ⟨k3,z64,vP bo 0,false,nilP,nilP,0,vP z.1 0⟩ qo (keyB seed 0) (vP bl 0))++[vP x12.1 0]),.blk bl 153 (liC (chainN0 k3 (comB (sumB (keyB seed 0)) qo)) 0),.blk b4 60 up,.blk b2 26 [.pointer none,.pointer none]]) F21 rfl rfl rfl (fun w1 H1=>(hbc _ _ [.blk b4 60 up,.blk b2 26 [.pointer none,.pointer none]] w1 (St.pick H1 (ks:=[2,3,0,4]) (by decide) rfl)).mono fun e w' h=>?_) rfl ?_
 ·obtain ⟨bs,bl,bo,z,h1,h2,h3⟩:=h
  exact ⟨_,_,h1,⟨bs,bl,bo,z,rfl,rfl⟩,St.pick h3 (ks:=[0,1,8,9]) (by decide) rfl⟩
 rintro v L' ⟨bs,bl,bo,zA,rfl,rfl⟩
 refine vl_v (q_move rfl) rfl<|vl_v (q_ext rfl rfl) rfl<|vl_v (q_ext rfl rfl) rfl<|vl_v (q_assign rfl) rfl<|vl_v (q_assign rfl) rfl<|vl_nil<|th_n<|VC_seq<|VC_region<|vl_v (q_move rfl) rfl<|l_call (F:=fun v L'=>∃ bf:Nat,v=.tuple #[vP bf 0,vN 0]∧L'=.blk bf 85 (lineC 0 1 bs)::[.blk bs 145 (seC (turnS ⟨k3,z64,vP bo 0,false,nilP,nilP,0,vP zA.1 0⟩ qo (keyB seed 0) (vP bl 0))++[vP x12.1 0]),.blk bl 153 (liC (chainN0 k3 (comB (sumB (keyB seed 0)) qo)) 0),.blk b4 60 up,.blk b2 26 [.pointer none,.pointer none]]) F22 rfl rfl rfl (fun w1 H1=>(fnew_calls bs 0 1 (by omega) (by omega) (by omega) w1 H1).mono fun e w' h=>?_) rfl ?_
 ·obtain ⟨bf,h1,h2⟩:=h
  exact ⟨_,_,h1,⟨bf,rfl,rfl⟩,h2⟩
 rintro v L' ⟨bf1,rfl,rfl⟩
 refine vl_v (q_move rfl) rfl<|vl_v (q_ext rfl rfl) rfl<|vl_v (q_ext rfl rfl) rfl<|vl_v (q_assign rfl) rfl<|vl_v (q_assign rfl) rfl<|vl_nil<|th_n<|VC_seq<|VC_region<|vl_v (q_build (c':=bys k3) rfl hq3) rfl<|vl_v (q_loads 3 U60 rfl rfl rfl sz60 (by with_reducible assumption)) rfl<|vl_v (q_move rfl) rfl ?_
 refine l_call (F:=fun v L'=>∃ (bt:Nat) (z:SkZ),v=vP bt 0∧MapOf z.2.2.1 (mapE [])∧L'=.blk bt 145 (seC ⟨k3,so++qo,nilP,false,nilP,nilP,0,vP z.1 0⟩++[vP x12.1 0])::(SkO [] z++(.blk bf1 85 (lineC 0 1 bs)::[.blk bs 145 (seC (turnS ⟨k3,z64,vP bo 0,false,nilP,nilP,0,vP zA.1 0⟩ qo (keyB seed 0) (vP bl 0))++[vP x12.1 0]),.blk bl 153 (liC (chainN0 k3 (comB (sumB (keyB seed 0)) qo)) 0),.blk b4 60 up,.blk b2 26 [.pointer none,.pointer none]]))) F23 rfl rfl rfl (fun w1 H1=>(hac _ _ w1 H1).mono fun e w' h=>?_) rfl ?_
 ·obtain ⟨bs,z,h1,h2,h3⟩:=h
  exact ⟨_,_,h1,⟨bs,z,rfl,h2,rfl⟩,h3⟩
 rintro v L' ⟨bs2,zB,rfl,hE,rfl⟩
 refine l_call (F:=fun v L'=>∃ bf:Nat,v=.tuple #[vP bf 0,vN 0]∧L'=.blk bf 85 (lineC 1 0 bs2)::(.blk bs2 145 (seC ⟨k3,so++qo,nilP,false,nilP,nilP,0,vP zB.1 0⟩++[vP x12.1 0])::(SkO [] zB++(.blk bf1 85 (lineC 0 1 bs)::[.blk bs 145 (seC (turnS ⟨k3,z64,vP bo 0,false,nilP,nilP,0,vP zA.1 0⟩ qo (keyB seed 0) (vP bl 0))++[vP x12.1 0]),.blk bl 153 (liC (chainN0 k3 (comB (sumB (keyB seed 0)) qo)) 0),.blk b4 60 up,.blk b2 26 [.pointer none,.pointer none]])))) F22 rfl rfl rfl (fun w1 H1=>(fnew_calls bs2 1 0 (by omega) (by omega) (by omega) w1 H1).mono fun e w' h=>?_) rfl ?_
 ·obtain ⟨bf,h1,h2⟩:=h
  exact ⟨_,_,h1,⟨bf,rfl,rfl⟩,h2⟩
 rintro v L' ⟨bf2,rfl,rfl⟩
 refine vl_v (q_move rfl) rfl<|vl_v (q_ext rfl rfl) rfl<|vl_v (q_ext rfl rfl) rfl<|vl_v (q_assign rfl) rfl<|vl_v (q_assign rfl) rfl<|vl_nil<|th_n<|VC_seq<|VC_seq<|VC_region<|vl_v (q_move rfl) rfl<|vl_v (q_as (v:=.bool false) (q_neq_k U29 rfl rfl) (by simp)) rfl ?_
 refine vl_v (q_move rfl) rfl<|vl_vg rfl (q_move rfl) rfl<|vl_vg rfl (q_as (v:=.bool false) (q_neq_k U29 rfl rfl) (by simp)) rfl<|vl_v (q_pickF rfl rfl) rfl<|vl_v (q_move rfl) rfl<|vl_vg rfl (q_move rfl) rfl<|vl_vg rfl (q_as (v:=.bool false) (q_neq_k U29 rfl rfl) (by simp)) rfl<|vl_v (q_pickF rfl rfl) rfl<|vl_nil<|th_n<|VC_no (rfl)<|VC_skip ?_
 refine th_n<|VC_seq<|VC_region<|vl_v (q_move rfl) rfl<|vl_v (q_move rfl) rfl<|vl_v (q_build (c':=[vP bf1 0,vP bf2 0]) rfl (by kernel_rfl)) rfl<|l_storeA 9 rfl rfl rfl sz26 (by exact rfl) (by exact one_all rfl) (by exact rfl) ?_
 simp only [List.set_cons_zero,List.set_cons_succ]
 refine vl_nil<|th_n<|VC_ret<|⟨_,resC1 9 rfl U26 rfl rfl rfl sz26 (by exact rfl),?_⟩
 exact ⟨bf1,bs,bl,bo,zA.1,bf2,bs2,x12.1,zB,rfl,hE,fun w' H=>St.pick H (ks:=[5,6,7,0,1,2,3,4]) (by decide) rfl⟩
def opB (i:Nat):List UInt8:=smallB (UInt8.ofNat i)
theorem opB_length (i:Nat):(opB i).length=32:=smallB_length _
def pA (seed:List UInt8):List UInt8:=pubB (sumB (keyB seed 0))
theorem pA_length (seed:List UInt8):(pA seed).length=32:=kf_length _
def envX (seed:List UInt8) (t:List UInt8) (i:Nat):EnvD:=⟨((0:Nat):Int),((1:Nat):Int),comitB (opB i) [numB 0,numB 1,t],pA seed,((0:Nat):Int),(i:Int),bodyB (chainN (chA seed) i) (pA seed) (opB i) t 0 1 0 i⟩
theorem envX_body (seed t:List UInt8) (i:Nat):(envX seed t i).body.length=64+t.length:=by
 unfold envX
 dsimp only
 exact bodyB_length _ _ _ _ _ _ _ _ (opB_length i)
theorem envX_cm (seed t:List UInt8) (i:Nat):(envX seed t i).cm.length=32:=by
 unfold envX
 dsimp only
 exact comitB_length _ _
theorem envX_pub (seed t:List UInt8) (i:Nat):(envX seed t i).pub.length=32:=by
 unfold envX
 dsimp only
 exact pA_length seed
theorem envX_bd (seed t:List UInt8) (i:Nat):(envX seed t i).body=closeW (msgK (chainN (chA seed) i)) (asideB (besB 0 1 (comitB (opB i) [numB 0,numB 1,t])) (pA seed) 0 i) (opB i++t):=by
 unfold envX bodyB
 with_reducible rfl
theorem envX_right {seed t:List UInt8} {i:Nat} (ht:t.length≤250) (hi:i<8):enR (envX seed t i)=true:=by
 unfold enR
 rw [envX_body]
 refine rightEB_iff.2 ⟨?_,?_,by omega⟩
 ·show (0:Int)≤((0:Nat):Int)∧((0:Nat):Int)≤7∧(0:Int)≤((1:Nat):Int)∧((1:Nat):Int)≤7
  omega
 ·show rightB ((0:Nat):Int) (i:Int)=true
  simp [rightB];omega
theorem envX_re {seed t:List UInt8} {i:Nat} (ht:t.length≤250) (hi:i<8):reE (enB (envX seed t i))=0∧reX (enB (envX seed t i))=envX seed t i:=re_en (envX_cm _ _ _) (envX_pub _ _ _) (envX_right ht hi)
theorem envX_enK {seed t:List UInt8} {i:Nat} (ht:t.length≤250) (hi:i<8):enK (envX seed t i)=0:=by unfold enK;exact if_pos (envX_right ht hi)
theorem turnS_ok {x:SeD} (h:x.ok) (pub k:List UInt8) (bl:Nat):(turnS x pub k (vP bl 0)).ok:=by
 obtain ⟨r,o,a,t,b,c,d,e⟩:=x
 unfold turnS
 exact ⟨by dsimp only;exact keyP_length ..,by dsimp only;exact pairB_length _,h.o,rfl,h.r,h.st⟩
theorem z64_length:z64.length=64:=by decide
theorem xA0_ok (seed:List UInt8) (bl bo d:Nat):(xA0 seed bl bo d).ok:=by
 unfold xA0
 have h:SeD.ok ⟨smallB 3,z64,vP bo 0,false,nilP,nilP,0,vP d 0⟩:=⟨smallB_length 3,z64_length,rfl,rfl,rfl,rfl⟩
 exact turnS_ok h _ _ _
theorem xA0_own (seed:List UInt8) (bl bo d:Nat):(xA0 seed bl bo d).own.drop 32=pA seed:=by
 unfold xA0 turnS pA
 dsimp only
 unfold pairB
 rw [List.drop_left' (sumB_length _)]
theorem xB0_ok (d:Nat):(xB0 d).ok:=by
 have h1:=sumB_length tOwn
 have h2:(pubB (sumB tOwn)).length=32:=kf_length _
 unfold xB0
 generalize pubB (sumB tOwn)=q at *
 generalize sumB tOwn=s at *
 exact ⟨smallB_length 3,by show (s++q).length=64;rw [List.length_append];omega,rfl,rfl,rfl,rfl⟩
theorem recvAV {S:List Nat} {w0:World} {R:List Res} (bs:Nat) (mo:List Value) (k3 so qo pa ch b l:List UInt8) (n:Nat) (z:SkZ) (B C:Option Addr) (cb lc cc:Nat) (h3:k3.length=32) (ls:so.length=32) (lq:qo.length=32) (hpa:pa.length=32) (hn:n<8) (hc0:comE (comB so pa)=0) (hch:chainN0 k3 (comB so pa)=ch) (hE:MapOf z.2.2.1 (mapE [])) (hb:b.length=46) (hcb:46≤cb) (hlc:lc=l.length+32) (hcc:lc≤cc) (hl:l.length≤1000) (hB:Rest S w0 R B b) (hC:Rest S w0 R C (closeW (msgK (chainN ch n)) (asideB b pa 0 n) l)) (w:World) (H:St S w0 (.blk bs 145 (seC ⟨k3,so++qo,nilP,false,nilP,nilP,0,vP z.1 0⟩++mo)::(SkO [] z++R)) w) :
 Calls Tryz.prog 40 #[vP bs 0,.slice B 46 cb,.agg (headC pa ((0:Nat):Int) (n:Int)).toArray,.slice C lc cc] w (RecvC S w0 bs (fun a b z=>metS ⟨k3,so++qo,nilP,false,nilP,nilP,0,vP z.1 0⟩ (comB so pa) (vP a 0) (vP b 0)) mo l (skL pa ch n) R):=by
 subst hch
 exact recvA_calls bs ⟨k3,so++qo,nilP,false,nilP,nilP,0,vP z.1 0⟩ mo so qo pa b l 0 n z B C 46 cb lc cc ⟨h3,by show (so++qo).length=64;rw [List.length_append];omega,rfl,rfl,rfl,rfl⟩ rfl rfl rfl rfl ls lq hpa (by omega) hn hc0 hE hb.symm hcb (by omega) hlc hcc hl hB hC w H
theorem chainN_len {c:List UInt8} (h:c.length=32):∀ i,(chainN c i).length=32
 | 0=>h
 | i+1=>keyP_length ..
theorem chA_length (seed:List UInt8) (i:Nat):(chainN (chA seed) i).length=32:=chainN_len (by unfold chA;exact keyP_length ..) i
structure Far (seed:List UInt8) (N m:Nat) (x:SeD) (L:List Ent) (d:Nat):Prop where
 le:m≤N
 how:(m=N∧x=xB0 d∧L=[])∨(x.ok∧x.st=vP d 0∧L=skL (pA seed) (chA seed) m)
theorem far_met (seed:List UInt8) {N m:Nat} (h:m≤N) (cm:List UInt8) (a b d:Nat):Far seed N m (metS (xB0 d) cm (vP a 0) (vP b 0)) (skL (pA seed) (chA seed) m) d:=⟨h,.inr ⟨metS_ok (xB0_ok d) cm a b,by unfold metS xB0;with_reducible rfl,rfl⟩⟩
theorem far_recv {seed t:List UInt8} {N m:Nat} {x:SeD} {L:List Ent} {z:SkZ} (hF:Far seed N (m+1) x L z.1) (hN:N≤8) (ht:t.length≤250) (hE:MapOf z.2.2.1 (mapE L)) (bs:Nat) (mo:List Value) (C:Option Addr) (lc cc:Nat) (hlc:lc=64+t.length) (hcc:lc≤cc) :
 ∃ X:Nat→Nat→SkZ→SeD,(∀ (a b:Nat) (z:SkZ),Far seed N m (X a b z) (skL (pA seed) (chA seed) m) z.1)∧∀ (S:List Nat) (w9:World) (R1:List Res) (B:Option Addr) (cb:Nat) (w1:World),46≤cb→Rest S w9 R1 B (besB 0 1 (comitB (opB m) [numB 0,numB 1,t]))→Rest S w9 R1 C (envX seed t m).body→St S w9 (.blk bs 145 (seC x++mo)::(SkO L z++R1)) w1→Calls Tryz.prog 40 #[vP bs 0,.slice B 46 cb,.agg (headC (pA seed) ((0:Nat):Int) (m:Int)).toArray,.slice C lc cc] w1 (RecvC S w9 bs X mo (opB m++t) (skL (pA seed) (chA seed) m) R1):=by
 have lbe:=besB_length 0 1 (c:=comitB (opB m) [numB 0,numB 1,t]) (comitB_length _ _)
 have lot:(opB m++t).length=32+t.length:=by rw [List.length_append,opB_length]
 have hle:=hF.le
 rcases hF.how with ⟨h1,rfl,rfl⟩ | ⟨h1,h2,rfl⟩
 ·have hc0:=com_two_ne (sumB tOwn) (sumB (keyB seed 0))
  have hch:chainN0 (smallB 3) (comB (sumB tOwn) (pA seed))=chA seed:=by unfold chA pA;rw [com_two]
  have hc0:comE (comB (sumB tOwn) (pA seed))=0:=hc0
  have hfar:=fun (cm:List UInt8) (a b:Nat) (z:SkZ)=>far_met seed (N:=N) (m:=m) (by omega) cm a b z.1
  have lq:(pubB (sumB tOwn)).length=32:=kf_length _
  have ls:=sumB_length tOwn
  have hbd:=envX_bd seed t m
  unfold xB0 at hfar ⊢
  have l3:=smallB_length 3
  have lpa:=pA_length seed
  generalize pubB (sumB tOwn)=qo at *
  generalize sumB tOwn=so at *
  generalize smallB 3=k3 at *
  generalize chA seed=ch at *
  generalize pA seed=pa at *
  generalize comitB (opB m) [numB 0,numB 1,t]=cm at *
  generalize envX seed t m=X at *
  generalize besB 0 1 cm=be at *
  generalize opB m++t=ot at *
  refine ⟨fun a b z=>metS ⟨k3,so++qo,nilP,false,nilP,nilP,0,vP z.1 0⟩ (comB so pa) (vP a 0) (vP b 0),fun a b z=>hfar _ a b z,fun S w9 R1 B cb w1 hcb hB hC H=>?_⟩
  ·rw [hbd] at hC
   exact recvAV bs mo k3 so qo pa ch be ot m z B C cb lc cc l3 ls lq lpa (by omega) hc0 hch hE lbe hcb (by omega) hcc (by omega) hB hC w1 H
 ·have hG:=skL_good (chA seed) (pA_length seed) (n:=m+1) (by omega)
  rw [skL_succ] at hG hE
  refine ⟨fun _ _ z=>{ x with st:=vP z.1 0 },fun a b z=>⟨by omega,.inr ⟨stS_ok h1 z.1,rfl,rfl⟩⟩,fun S w9 R1 B cb w1 hcb hB hC H=>?_⟩
  rw [skL_succ] at H
  exact recvB_calls (S:=S) (w0:=w9) (R:=R1) (L:=skL (pA seed) (chA seed) m) bs x mo (pA seed) (besB 0 1 (comitB (opB m) [numB 0,numB 1,t])) (opB m++t) (msgK (chainN (chA seed) m)) 0 m z B C 46 cb lc cc h1 h2 (pA_length _) (msgK_length _) (by omega) (by omega) (by rw [skL_length];omega) hG hE lbe.symm hcb (by omega) (by omega) hcc (by omega) hB hC w1 H
theorem far_unwrap {w0:World} {R:List Res} {seed t:List UInt8} {N m:Nat} {x:SeD} {L:List Ent} {z:SkZ} (fb sb:Nat) (mo:List Value) (y:Option Addr × Nat) (hF:Far seed N (m+1) x L z.1) (hN:N≤8) (ht:t.length≤250) (hE:MapOf z.2.2.1 (mapE L)) (hcc:64+t.length≤y.2) (hC:Rest [] w0 R y.1 (envX seed t m).body) (w:World) (H:St [] w0 ([.blk fb 85 (lineC 1 0 sb),.blk sb 145 (seC x++mo)]++(SkO L z++R)) w) :
 Calls Tryz.prog 10 #[vP fb 0,.agg (envOf (envX seed t m) y).toArray] w fun e w'=>∃ (x':SeD) (z':SkZ) (v:Value),e=.returned (.tuple #[v,.agg (bys (opB m)).toArray,vN 0])∧MapOf z'.2.2.1 (mapE (skL (pA seed) (chA seed) m))∧Far seed N m x' (skL (pA seed) (chA seed) m) z'.1∧St [] w0 ([.blk fb 85 (lineC 1 0 sb),.blk sb 145 (seC x'++mo),.row 5 1 v t.length (bys t)]++(SkO (skL (pA seed) (chA seed) m) z'++R)) w':=by
 obtain ⟨X,hX,hr⟩:=far_recv hF hN ht hE sb mo y.1 (64+t.length) y.2 rfl hcc
 have h:=unwrap_calls (w0:=w0) (R:=R) fb sb 1 0 x mo X L (skL (pA seed) (chA seed) m) z (pA seed) (opB m) t (envX seed t m).body 0 m y.1 (64+t.length) y.2 (opB_length m) (pA_length seed) (by omega) rfl hcc ht hC hr w H
 have e:envOf (envX seed t m) y=envC ((0:Nat):Int) ((1:Nat):Int) (comitB (opB m) [numB 0,numB 1,t]) (pA seed) ((0:Nat):Int) (m:Int) (.slice y.1 (64+t.length) y.2):=by
  have h:=envX_body seed t m
  unfold envOf
  rw [h]
  unfold envX
  with_reducible rfl
 rw [e]
 refine h.mono ?_
 rintro e w' ⟨a,b,z',v,h1,h2,h3⟩
 exact ⟨_,z',v,h1,h2,hX a b z',h3⟩
end Go.Proofs.YtfpdnpppcoomnaaGreat
namespace Go.PBYtfpdnpppcoomnaaGreat
open Go Go.RowKit
section
variable {P : Program} {n : Nat} {S : List Nat} {w0 : World} {env : Env} {L : List Res} {Q : QE} {ops : Array Oper} {rest : List Oper}
variable {d : Tmp} {ty : TypeId} {pos : String} {af : Array Edge} {g : Option (Nat × Bool)}
theorem l_callGd {f:FuncId} {fn:Func} {xs:Array Operand} {ats:Array TypeId} {args:List Value} {F:Value→List Res→Prop} (hg:Met ops env g) (hf:P.funcs[f]?=some fn) (hb:fn.body.isSome=true) (hn:(fn.name == "runtime.NumGoroutine")=false) (hx:evalsE env xs.toList=some args)
 (hc:∀ w,St S w0 L w→Calls P f args.toArray w (fun e w'=>∃ v L',e=.returned v∧F v L'∧St S w0 L' w')) (hd:dstOk n (some d)=true) (h:∀ v L',F v L'→VL P n S w0 ops Q rest ((d,v)::env) L') :
 VL P n S w0 ops Q ({ dst:=some d,op:=.call { callee:=.value (.func f),args:=xs,argTypes:=ats },type:=ty,pos,after:=af,guard:=g }::rest) env L :=
 vl_run hg fun a w hm H=>opw_call args hf hb hn (hm.evals hx) ((hc w H).mono fun e w' ⟨v,L',h1,h2,h3⟩=>⟨v,h1,(h v L' h2).run _ w' (hm.put hd v) h3⟩)
theorem pick_append {L:List Res}:∀ {ks js:List Nat} {A M:List Res},PBYtfpdnpppcoomnaaGreat.pick L ks=some A→PBYtfpdnpppcoomnaaGreat.pick L js=some M→PBYtfpdnpppcoomnaaGreat.pick L (ks++js)=some (A++M)
 | [],js,A,M,h,h'=>by simp only [PBYtfpdnpppcoomnaaGreat.pick,Option.some.injEq] at h;subst h;exact h'
 | k::ks,js,A,M,h,h'=>by
  simp only [PBYtfpdnpppcoomnaaGreat.pick,List.cons_append] at h ⊢
  cases hk:L[k]? with
  | none=>rw [hk] at h;exact absurd h (by simp)
  | some x =>
   rw [hk] at h
   cases hx:PBYtfpdnpppcoomnaaGreat.pick L ks with
   | none=>rw [hx] at h;exact absurd h (by simp)
   | some xs =>
    rw [hx] at h
    obtain rfl:=Option.some.inj h
    rw [pick_append hx h']
    rfl
theorem St.pickE {M R L':List Res} {w:World} (m:Nat) (H:St S w0 L w) (ks:List Nat) (hnd:ks.Nodup) (hlt:∀ k∈ks,k<m) (h:PBYtfpdnpppcoomnaaGreat.pick L ks=some M) (hR:L.drop m=R) (e:M++R=L'):St S w0 L' w:=e ▸ St.pickR m H hnd hlt h hR
theorem l_callTk {f:FuncId} {fn:Func} {xs:Array Operand} {ats:Array TypeId} {args:List Value} {F:Value→List Res→Prop} {A M R:List Res} (m:Nat) (ks js:List Nat) (hA:PBYtfpdnpppcoomnaaGreat.pick L ks=some A) (hM:PBYtfpdnpppcoomnaaGreat.pick L js=some M) (hnd:(ks++js).Nodup) (hlt:∀ k∈ks++js,k<m) (hR:L.drop m=R) (hg:Met ops env g) (hf:P.funcs[f]?=some fn) (hb:fn.body.isSome=true) (hn:(fn.name == "runtime.NumGoroutine")=false) (hx:evalsE env xs.toList=some args)
 (hc:∀ w,St S w0 (A++(M++R)) w→Calls P f args.toArray w (fun e w'=>∃ v N,e=.returned v∧F v N∧St S w0 (N++(M++R)) w')) (hd:dstOk n (some d)=true) (h:∀ v N,F v N→VL P n S w0 ops Q rest ((d,v)::env) (N++(M++R))) :
 VL P n S w0 ops Q ({ dst:=some d,op:=.call { callee:=.value (.func f),args:=xs,argTypes:=ats },type:=ty,pos,after:=af,guard:=g }::rest) env L :=
 l_callGd (F:=fun v L'=>∃ N,F v N∧L'=N++(M++R)) hg hf hb hn hx (fun w H=>(hc w (by
  have h1:=St.pickR m H hnd hlt (pick_append hA hM) hR
  rwa [List.append_assoc] at h1)).mono fun e w' ⟨v,N,h1,h2,h3⟩=>⟨v,_,h1,⟨N,h2,rfl⟩,h3⟩) hd (by rintro v L' ⟨N,h1,rfl⟩;exact h v N h1)
end
end Go.PBYtfpdnpppcoomnaaGreat
namespace Go.Proofs.YtfpdnpppcoomnaaGreat
open Go Go.RowKit Go.PBYtfpdnpppcoomnaaGreat
theorem built_op (u:UInt8):Tryz.prog.built 33 [(0,vU8 u)]=some (bys (smallB u)).toArray:=by kernel_rfl
theorem envX_of (seed t:List UInt8) (i:Nat) (y:Option Addr × Nat):envOf (envX seed t i) y=envC ((0:Nat):Int) ((1:Nat):Int) (comitB (opB i) [numB 0,numB 1,t]) (pA seed) ((0:Nat):Int) (i:Int) (.slice y.1 (64+t.length) y.2):=by
 have h:=envX_body seed t i
 unfold envOf
 rw [h]
 unfold envX
 with_reducible rfl
structure PT where
 i:Nat
 la:Nat
 A:Option Addr
 c:Nat
 us:List Value
 G:List Res
structure PT.ok (x:PT) (seed:List UInt8) (ts:List (List UInt8)):Prop where
 le:x.i≤ts.length
 len:x.us.length=x.i
 rd:∀ j u t,x.us[j]?=some u→ts[j]?=some t→t.length≤250∧∃ A c,u=.slice A (enB (envX seed t j)).length c∧(enB (envX seed t j)).length≤c∧∀ w,(∀ r∈x.G,r.ok w)→SlAt w A (bys (enB (envX seed t j)))
theorem PT.next {x:PT} {seed:List UInt8} {ts:List (List UInt8)} (h:x.ok seed ts) {t:List UInt8} (ht:ts[x.i]?=some t) (h250:t.length≤250) {A' AE:Option Addr} {c' la' cE:Nat} (hc:(enB (envX seed t x.i)).length≤cE) :
 PT.ok ⟨x.i+1,la',A',c',x.us++[.slice AE (enB (envX seed t x.i)).length cE],.row 5 1 (.slice AE (enB (envX seed t x.i)).length cE) (enB (envX seed t x.i)).length (bys (enB (envX seed t x.i)))::x.G⟩ seed ts:=by
 obtain ⟨h1,h2,h3⟩:=h
 have hi:x.i<ts.length:=(List.getElem?_eq_some_iff.1 ht).1
 refine ⟨hi,by show (x.us++[_]).length=x.i+1;rw [List.length_append,h2];rfl,?_⟩
 intro j u t' hu ht'
 dsimp only at hu ⊢
 by_cases hj:j<x.us.length
 ·rw [List.getElem?_append_left hj] at hu
  obtain ⟨k1,A,c,k2,k3,k4⟩:=h3 j u t' hu ht'
  exact ⟨k1,A,c,k2,k3,fun w hw=>k4 w fun r hr=>hw r (List.mem_cons_of_mem _ hr)⟩
 ·rw [List.getElem?_append_right (by omega)] at hu
  have hl:j-x.us.length<1:=by
   have:=(List.getElem?_eq_some_iff.1 hu).1
   simpa using this
  obtain rfl:j=x.i:=by omega
  rw [h2,Nat.sub_self] at hu
  obtain rfl:=Option.some.inj hu
  rw [ht] at ht'
  obtain rfl:=Option.some.inj ht'
  exact ⟨h250,AE,cE,rfl,hc,fun w hw=>Row.sl (hw _ List.mem_cons_self)⟩
structure QT where
 m:Nat
 x:SeD
 L:List Ent
 z:SkZ
 o:Obj
 kn:Bool
structure QT.ok (y:QT) (seed:List UInt8) (N nw:Nat) (k4:List UInt8):Prop where
 far:Far seed N y.m y.x y.L y.z.1
 sk:MapOf y.z.2.2.1 (mapE y.L)
 rel:MapOf y.o (relE (nw / 7) (epK k4 (nw / 7)) y.kn)
def arrT (fa fb:Nat):List Value:=[vP fa 0,vP fb 0]
def LinA (fa sa la oa da q i:Nat) (seed:List UInt8):List Res:=[.blk fa 85 (lineC 0 1 sa),.blk sa 145 (seC (xA0 seed la oa da)++[vP q 0]),.blk la 153 (liC (chainN (chA seed) i) i)]
def LinB (fb sb q:Nat) (x:SeD) (L:List Ent) (z:SkZ):List Res:=[.blk fb 85 (lineC 1 0 sb),.blk sb 145 (seC x++[vP q 0])]++SkO L z
def gLS (la:Nat) (y:Option Addr × Nat):Value:=.tuple #[gNat la,.slice y.1 0 y.2]
def dLS (v:Value):Nat × (Option Addr × Nat):=match v with
 | .tuple a=>match a.toList with
  | [x,.slice A _ c]=>(dNat x,(A,c))
  | _=>(0,(none,0))
 | _=>(0,(none,0))
theorem dgLS (la:Nat) (y:Option Addr × Nat):dLS (gLS la y)=(la,y):=by simp [dLS,gLS,dgNat]
theorem envX_len (seed t:List UInt8) (i:Nat) (y:Option Addr × Nat):(envOf (envX seed t i) y).length=69:=by
 have h1:=envX_cm seed t i
 have h2:=envX_pub seed t i
 generalize envX seed t i=X at *
 exact (envC_f h1 h2).len
theorem envX_f (seed t:List UInt8) (i:Nat) (y:Option Addr × Nat):((envOf (envX seed t i) y).drop 2).take 32=bys (envX seed t i).cm:=by
 have h1:=envX_cm seed t i
 have h2:=envX_pub seed t i
 generalize envX seed t i=X at *
 exact (envC_f h1 h2).g2
theorem envX_one (seed t:List UInt8) (i:Nat) (y:Option Addr × Nat):∀ u∈envOf (envX seed t i) y,u.oneCell'=true:=by
 generalize envX seed t i=X
 exact envC_one rfl
theorem xA0_set (seed:List UInt8) (a b o d:Nat):{ xA0 seed a o d with s:=vP b 0 }=xA0 seed b o d:=by
 unfold xA0 turnS
 with_reducible rfl
theorem far_wrap {S:List Nat} {w0:World} {R:List Res} {seed t:List UInt8} (fa sa la oa da q i:Nat) (C:Option Addr) (cc:Nat) (ht:t.length≤250) (hi:i<8) (hcc:t.length≤cc) (hC:Rest S w0 R C t) (w:World) (H:St S w0 (LinA fa sa la oa da q i seed++R) w) :
 Calls Tryz.prog 7 #[vP fa 0,.agg (bys (opB i)).toArray,.slice C t.length cc] w fun e w'=>∃ (la':Nat) (y:Option Addr × Nat),e=.returned (.tuple #[.agg (envOf (envX seed t i) y).toArray,vN 0])∧St S w0 (LinA fa sa la' oa da q (i+1) seed++(.row 5 1 (.slice y.1 (envX seed t i).body.length y.2) (envX seed t i).body.length (bys (envX seed t i).body)::R)) w':=by
 have h1:=xA0_ok seed la oa da
 have h2:=xA0_own seed la oa da
 have h3:(xA0 seed la oa da).s=vP la 0:=by unfold xA0 turnS;with_reducible rfl
 have h4:(xA0 seed la oa da).t=false:=by unfold xA0 turnS;with_reducible rfl
 have h5:(xA0 seed la oa da).p=0:=by unfold xA0 turnS;with_reducible rfl
 have h6:=fun b=>xA0_set seed la b oa da
 have h7:=chA_length seed i
 have h8:=chainN_succ (chA seed) i
 have h9:=envX_of seed t i
 have hA:=envX_body seed t i
 have hB:(envX seed t i).body=bodyB (chainN (chA seed) i) (pA seed) (opB i) t 0 1 0 i:=by unfold envX;with_reducible rfl
 have hD:=opB_length i
 unfold LinA at H ⊢
 generalize pA seed=pa at *
 generalize chainN (chA seed) (i+1)=ch1 at *
 generalize chainN (chA seed) i=ch at *
 generalize opB i=oi at *
 generalize envX seed t i=X at *
 generalize xA0 seed la oa da=x at h1 h2 h3 h4 h5 h6 H
 have h:=wrap_calls (S:=S) (w0:=w0) (R:=R) fa sa la 0 1 x [vP q 0] ch pa oi t i C t.length cc h1 h3 h4 h2 h7 hD (by omega) (by omega) rfl hcc ht hC w H
 rw [h5] at h
 simp only [h5] at h6
 refine h.mono ?_
 rintro e w' ⟨b,v,k1,k2⟩
 rw [h6,← h8,← hB] at k2
 obtain ⟨A,c,rfl,_⟩:=row_sl k2 3 rfl
 refine ⟨b,(A,c),?_,?_⟩
 ·rw [h9];exact k1
 ·rw [hA];exact k2
theorem far_env {seed t:List UInt8} {i:Nat} (ht:t.length≤250) (hi:i<8) (y:Option Addr × Nat) (w:World) (hA:SlAt w y.1 (bys (envX seed t i).body)) :
 Calls Tryz.prog 8 #[.agg (envOf (envX seed t i) y).toArray] w fun e w'=>∃ v,e=.returned (.tuple #[v,vN 0])∧St [] w [.row 5 1 v (enB (envX seed t i)).length (bys (enB (envX seed t i)))] w':=by
 have h1:=envX_cm seed t i
 have h2:=envX_pub seed t i
 have h3:=envX_enK (seed:=seed) ht hi
 generalize envX seed t i=X at *
 have h:=henv_calls X y.1 y.2 h1 h2 w hA
 unfold enCalls at h
 rw [h3] at h
 exact h.mono fun e w' ⟨x,k1,k2⟩=>⟨_,k1,k2⟩
theorem far_read {seed t:List UInt8} {i:Nat} (ht:t.length≤250) (hi:i<8) (A:Option Addr) (m c:Nat) (hm:m=(enB (envX seed t i)).length) (hc:m≤c) (w:World) (hA:SlAt w A (bys (enB (envX seed t i)))) :
 Calls Tryz.prog 9 #[.slice A m c] w fun e w'=>∃ y:Option Addr × Nat,e=.returned (.tuple #[.agg (envOf (envX seed t i) y).toArray,vN 0])∧St [] w [.row 5 1 (.slice y.1 (envX seed t i).body.length y.2) (envX seed t i).body.length (bys (envX seed t i).body)] w':=by
 obtain ⟨h1,h2⟩:=envX_re (seed:=seed) ht hi
 generalize envX seed t i=X at *
 have h:=readE_calls (enB X) A m c hm hc w hA
 unfold reCalls at h
 rw [h1,h2] at h
 exact h
theorem far_same {seed t:List UInt8} {i:Nat} (hi:i<8) (y z:Option Addr × Nat) (w:World) (hA:SlAt w y.1 (bys (envX seed t i).body)) (hB:SlAt w z.1 (bys (envX seed t i).body)) :
 Calls Tryz.prog 17 #[.agg (envOf (envX seed t i) y).toArray,.agg (envOf (envX seed t i) z).toArray] w fun e w'=>e=.returned (.bool true)∧Kept [] w w':=by
 have h1:=envX_cm seed t i
 have h2:=envX_pub seed t i
 have h3:Fits (headC (envX seed t i).pub (envX seed t i).p (envX seed t i).q) (List.replicate 32 .u8++[.i64,.i64]):=by
  refine headC_fits h2 ?_ ?_
  ·show (Lit.int .i64 ((0:Nat):Int)).wf=true
   exact wf_small 0 (by omega)
  ·show (Lit.int .i64 (i:Int)).wf=true
   exact wf_small i (by omega)
 generalize envX seed t i=X at *
 have h:=same12_calls X X y.1 z.1 y.2 z.2 h1 h2 h1 h2 h3 h3 w hA hB
 rw [sameEB_refl] at h
 exact h
def stX (k4:List UInt8) (nw:Nat) (cm:List UInt8):StN:=stampN k4 7 0 1 nw cm
structure StX (k4:List UInt8) (nw:Nat) (cm:List UInt8) (x:StN):Prop where
 ok:x.ok
 e:x.e=nw / 7
 f:x.f=0
 t:x.t=1
 ti:x.ti=nw
 cm:x.cm=cm
 tg:x.tg=tagB k4 x
theorem stX_f {k4:List UInt8} {nw:Nat} {cm:List UInt8} (hn:nw≤900000) (hc:cm.length=32):StX k4 nw cm (stX k4 nw cm):=by
 have hk:∀ (r:List UInt8) (e ti:Nat) (a b:List UInt8),tagB r ⟨e,0,1,ti,cm,a⟩=tagB r ⟨e,0,1,ti,cm,b⟩:=fun r e ti a b=>by unfold tagB;dsimp only
 have hl:=tagB_length k4 ⟨nw / 7,0,1,nw,cm,z32b⟩
 have hk:=fun a=>hk k4 (nw / 7) nw a z32b
 unfold stX stampN
 generalize tagB k4 ⟨nw / 7,0,1,nw,cm,z32b⟩=g at *
 exact ⟨⟨by dsimp only;omega,by dsimp only;omega,by dsimp only;omega,by dsimp only;omega,hc,hl⟩,rfl,rfl,rfl,rfl,rfl,(hk g).symm⟩
theorem far_stamp {w0:World} {R:List Res} {seed t k4:List UInt8} (br bv bk m nw j:Nat) (o:Obj) (y:Option Addr × Nat) (kn:Bool) (hk:k4.length=32) (hn:nw≤900000) (hE:MapOf o (relE (nw / 7) (epK k4 (nw / 7)) kn)) (w:World) (H:St [] w0 (RelR br bv bk m o 7 k4++R) w) :
 Calls Tryz.prog 11 #[vP br 0,.agg (envOf (envX seed t j) y).toArray,vN nw] w fun e w'=>∃ o':Obj,e=.returned (.tuple #[.agg (stN (stX k4 nw (comitB (opB j) [numB 0,numB 1,t]))).toArray,vN 0])∧MapOf o' (relE (nw / 7) (epK k4 (nw / 7)) true)∧St [] w0 (RelR br bv bk m o' 7 k4++R) w':=by
 have lc:(comitB (opB j) [numB 0,numB 1,t]).length=32:=comitB_length _ _
 have lp:=pA_length seed
 rw [envX_of]
 unfold stX
 generalize comitB (opB j) [numB 0,numB 1,t]=cm at *
 generalize pA seed=pa at *
 exact stamp_calls br bv bk m 7 0 1 nw o k4 cm pa _ _ _ kn hk lc lp (by omega) (by omega) (by omega) (by omega) rfl hE w H
theorem far_rep (id b:Nat) (A:Option Addr) (n c:Nat) (l op:List UInt8) (x:StN) (hid:id≤1000000) (hb:b<8) (hl:l.length≤250) (hop:op.length=32) (hx:x.ok) (w:World) (hn:n=(reptB id b l op x).length) (hc:n≤c) (hA:SlAt w A (bys (reptB id b l op x))) :
 Calls Tryz.prog 13 #[.slice A n c] w fun e w'=>∃ y:Option Addr × Nat,e=.returned (.tuple #[.agg (repC id b (.slice y.1 l.length y.2) op x).toArray,vN 0])∧St [] w [.row 5 1 (.slice y.1 l.length y.2) l.length (bys l)] w' :=
 (repRead_calls id b A n c l op x hid hb hl hop hx w hn hc hA).mono fun e w' ⟨A2,c2,h1,h2⟩=>⟨(A2,c2),h1,h2⟩
theorem tb_all (seed:List UInt8) (B:Option Addr) (cB:Nat) (hb:seed.length≤140737488355328) (ts:List (List UInt8)) (A:Option Addr) (cA:Nat) (us0:List Value) (hcA:ts.length≤cA) (hu:us0.length=ts.length) (now:Int) (w:World) (hB:SlAt w B (bys seed)) (hA:SlAt w A us0) (hT:∀ (i:Nat) (u:Value) (l:List UInt8),us0[i]?=some u→ts[i]?=some l→BsAt w u l) :
 Calls Tryz.prog 3 #[.slice B seed.length cB,.slice A ts.length cA,.int .i64 now] w fun e w'=>e=.returned (.bool true)∧Kept [] w w':=by
 have lk4:(smallB 4).length=32:=smallB_length 4
 have hq4:Tryz.prog.built 33 [(0,.int .u8 4)]=some (bys (smallB 4)).toArray:=by kernel_rfl
 obtain ⟨k4,hk4⟩:∃ s,smallB 4=s:=⟨_,rfl⟩
 rw [hk4] at lk4 hq4
 refine enter (n:=257) (R:=fun e L=>e=.returned (.bool true)) [.slice B seed.length cB,.slice A ts.length cA,.int .i64 now] F3 rfl rfl rfl (St.refl w) ?_ (fun e w' L' h H=>⟨h,H.kept⟩)
 refine VC_seq<|VC_region<|vl_v (q_assign rfl) rfl<|vl_nil<|th_n<|VC_seq<|VC_region<|vl_v (q_callV F4 rfl rfl rfl (fun w1 H1=>common_calls w1)) rfl<|vl_v (q_assign rfl) rfl<|vl_nil<|th_n<|VC_seq ?_
 refine VC_region<|vl_v (q_move rfl) rfl<|l_call (F:=fun v L'=>∃ (fa sa la oa da fb sb q:Nat) (z:SkZ),v=.agg (arrT fa fb).toArray∧MapOf z.2.2.1 (mapE [])∧L'=LinA fa sa la oa da q 0 seed++LinB fb sb q (xB0 z.1) [] z) F5 rfl rfl rfl (fun w1 H1=>(begun_calls seed B cB hb w1 (H1.sl0 hB)).mono fun e w' h=>?_) rfl ?_
 ·obtain ⟨fa,sa,la,oa,da,fb,sb,q,z,h1,h2,h3⟩:=h
  exact ⟨_,_,h1,⟨fa,sa,la,oa,da,fb,sb,q,z,rfl,h2,rfl⟩,H1.join h3⟩
 rintro v L' ⟨fa,sa,la0,oa,da,fb,sb,q,zB,rfl,hE0,rfl⟩
 simp only [LinA,LinB,SkO,SkR,List.cons_append,List.nil_append]
 refine l_allocA zr26 rfl<|fun b8=>l_storeA 0 rfl rfl rfl sz26 (by exact rfl) (by exact one_all rfl) (by exact rfl) ?_
 simp only [List.set_cons_zero,List.set_cons_succ]
 refine vl_nil<|th_n<|VC_seq<|VC_region<|vl_v (q_build (c':=bys k4) rfl hq4) rfl<|l_call (F:=fun v L'=>∃ (br bv bk m:Nat) (o:Obj),v=.tuple #[vP br 0,vN 0]∧MapOf o []∧L'=RelR br bv bk m o 7 k4++(.blk b8 26 (arrT fa fb)::(LinA fa sa la0 oa da q 0 seed++LinB fb sb q (xB0 zB.1) [] zB))) F6 rfl rfl rfl (fun w1 H1=>(snew16_calls k4 7 (by omega) (by omega) w1 H1).mono fun e w' h=>?_) rfl ?_
 ·obtain ⟨br,bv,bk,m,o,h1,h2,h3⟩:=h
  exact ⟨_,_,h1,⟨br,bv,bk,m,o,rfl,h2,rfl⟩,h3⟩
 rintro v L' ⟨br,bv,bk,mk,ob,rfl,hM0,rfl⟩
 simp only [LinA,LinB,SkO,SkR,RelR,List.cons_append,List.nil_append]
 refine vl_v (q_move rfl) rfl<|vl_v (q_ext rfl rfl) rfl<|vl_v (q_ext rfl rfl) rfl<|vl_v (q_assign rfl) rfl<|vl_v (q_assign rfl) rfl<|vl_nil<|th_n<|VC_seq<|VC_seq<|VC_region<|vl_v (q_idxA (m:=0) U26 sz25 rfl rfl (by omega) (r:=_) (by rw [Nat.mul_one,Nat.zero_add])) rfl<|vl_v (q_load 4 U25 rfl rfl rfl rfl) rfl ?_
 refine vl_v (q_eqPN U25 rfl rfl) rfl<|vl_v (q_move rfl) rfl<|vl_vg rfl (q_idxA (m:=1) U26 sz25 rfl rfl (by omega) (r:=_) (by rw [Nat.mul_one,Nat.zero_add])) rfl<|vl_vg rfl (q_load 4 U25 rfl rfl rfl rfl) rfl<|vl_vg rfl (q_eqPN U25 rfl rfl) rfl<|vl_v (q_pickF rfl rfl) rfl<|vl_v (q_move rfl) rfl<|vl_vg rfl (q_move rfl) rfl<|vl_vg rfl (q_eqPN U28 rfl rfl) rfl<|vl_v (q_pickF rfl rfl) rfl<|vl_v (q_move rfl) rfl<|vl_vg rfl (q_move rfl) rfl ?_
 refine vl_vg rfl (q_as (v:=.bool false) (q_neq_k U29 rfl rfl) (by simp)) rfl<|vl_v (q_pickF rfl rfl) rfl<|vl_v (q_move rfl) rfl<|vl_vg rfl (q_move rfl) rfl<|vl_vg rfl (q_lenS U22 rfl) rfl<|vl_vg rfl (q_gtr_n (q:=100) U3 rfl rfl) rfl ?_
 by_cases hs63:100<seed.length
 ·skip
  rw [show decide (100<seed.length)=true from decide_eq_true hs63]
  refine vl_v (q_pickF rfl rfl) rfl<|vl_v (q_move rfl) rfl<|vl_skip rfl rfl<|vl_skip rfl rfl<|vl_skip rfl rfl<|vl_v (q_pickT rfl rfl) rfl<|vl_v (q_move rfl) rfl<|vl_skip rfl rfl<|vl_skip rfl rfl<|vl_v (q_pickT rfl rfl) rfl<|vl_v (q_move rfl) rfl<|vl_skip rfl rfl ?_
  refine vl_skip rfl rfl<|vl_v (q_pickT rfl rfl) rfl<|vl_nil<|th_n<|VC_yes (rfl)<|VC_seq<|VC_region<|vl_v (q_move rfl) rfl<|vl_v (q_move rfl) rfl<|vl_vg rfl (q_idxA (m:=0) U26 sz25 rfl rfl (by omega) (r:=_) (by rw [Nat.mul_one,Nat.zero_add])) rfl<|vl_vg rfl (q_load 4 U25 rfl rfl rfl rfl) rfl<|vl_vg rfl (q_nePN U25 rfl rfl) rfl ?_
  refine vl_v (q_pickT rfl rfl) rfl<|vl_v (q_move rfl) rfl<|vl_vg rfl (q_move rfl) rfl<|vl_vg rfl (q_nePN U28 rfl rfl) rfl<|vl_v (q_pickT rfl rfl) rfl<|vl_v (q_assign rfl) rfl<|vl_nil<|th_n<|VC_ret<|th_r<|⟨_,res1 rfl rfl,?_⟩
  exact rfl
 ·skip
  rw [show decide (100<seed.length)=false from decide_eq_false hs63]
  refine vl_v (q_pickF rfl rfl) rfl<|vl_v (q_move rfl) rfl<|vl_vg rfl (q_move rfl) rfl<|vl_vg rfl (q_lenS U23 rfl) rfl<|vl_vg rfl (q_gtr_n (q:=8) U3 rfl rfl) rfl ?_
  by_cases hs68:8<ts.length
  ·skip
   rw [show decide (8<ts.length)=true from decide_eq_true hs68]
   refine vl_v (q_pickF rfl rfl) rfl<|vl_v (q_move rfl) rfl<|vl_skip rfl rfl<|vl_skip rfl rfl<|vl_v (q_pickT rfl rfl) rfl<|vl_v (q_move rfl) rfl<|vl_skip rfl rfl<|vl_skip rfl rfl<|vl_v (q_pickT rfl rfl) rfl<|vl_nil<|th_n<|VC_yes (rfl) ?_
   refine VC_seq<|VC_region<|vl_v (q_move rfl) rfl<|vl_v (q_move rfl) rfl<|vl_vg rfl (q_idxA (m:=0) U26 sz25 rfl rfl (by omega) (r:=_) (by rw [Nat.mul_one,Nat.zero_add])) rfl<|vl_vg rfl (q_load 4 U25 rfl rfl rfl rfl) rfl<|vl_vg rfl (q_nePN U25 rfl rfl) rfl<|vl_v (q_pickT rfl rfl) rfl<|vl_v (q_move rfl) rfl<|vl_vg rfl (q_move rfl) rfl<|vl_vg rfl (q_nePN U28 rfl rfl) rfl<|vl_v (q_pickT rfl rfl) rfl ?_
   refine vl_v (q_assign rfl) rfl<|vl_nil<|th_n<|VC_ret<|th_r<|⟨_,res1 rfl rfl,?_⟩
   exact rfl
  ·skip
   rw [show decide (8<ts.length)=false from decide_eq_false hs68]
   refine vl_v (q_pickF rfl rfl) rfl<|vl_v (q_move rfl) rfl<|vl_vg rfl (q_move rfl) rfl<|vl_vg rfl (q_lss_k U3 rfl rfl) rfl ?_
   by_cases hs72:now<0
   ·skip
    rw [show decide (now<0)=true from decide_eq_true hs72]
    refine vl_v (q_pickF rfl rfl) rfl<|vl_v (q_move rfl) rfl<|vl_skip rfl rfl<|vl_skip rfl rfl<|vl_v (q_pickT rfl rfl) rfl<|vl_nil<|th_n<|VC_yes (rfl)<|VC_seq<|VC_region<|vl_v (q_move rfl) rfl<|vl_v (q_move rfl) rfl ?_
    refine vl_vg rfl (q_idxA (m:=0) U26 sz25 rfl rfl (by omega) (r:=_) (by rw [Nat.mul_one,Nat.zero_add])) rfl<|vl_vg rfl (q_load 4 U25 rfl rfl rfl rfl) rfl<|vl_vg rfl (q_nePN U25 rfl rfl) rfl<|vl_v (q_pickT rfl rfl) rfl<|vl_v (q_move rfl) rfl<|vl_vg rfl (q_move rfl) rfl<|vl_vg rfl (q_nePN U28 rfl rfl) rfl<|vl_v (q_pickT rfl rfl) rfl<|vl_v (q_assign rfl) rfl<|vl_nil<|th_n<|VC_ret ?_
    refine th_r<|⟨_,res1 rfl rfl,?_⟩
    exact rfl
   ·skip
    rw [show decide (now<0)=false from decide_eq_false hs72]
    refine vl_v (q_pickF rfl rfl) rfl<|vl_v (q_move rfl) rfl<|vl_vg rfl (q_move rfl) rfl<|vl_vg rfl (q_gtr_k U3 rfl rfl) rfl<|vl_v (q_pickF rfl rfl) rfl<|vl_nil<|th_n<|VC_cond rfl (fun ht77=>?_) (fun ht77=>?_)
    ·skip
     refine VC_seq<|VC_region<|vl_v (q_move rfl) rfl<|vl_v (q_move rfl) rfl<|vl_vg rfl (q_idxA (m:=0) U26 sz25 rfl rfl (by omega) (r:=_) (by rw [Nat.mul_one,Nat.zero_add])) rfl<|vl_vg rfl (q_load 4 U25 rfl rfl rfl rfl) rfl<|vl_vg rfl (q_nePN U25 rfl rfl) rfl<|vl_v (q_pickT rfl rfl) rfl<|vl_v (q_move rfl) rfl<|vl_vg rfl (q_move rfl) rfl<|vl_vg rfl (q_nePN U28 rfl rfl) rfl<|vl_v (q_pickT rfl rfl) rfl ?_
     refine vl_v (q_assign rfl) rfl<|vl_nil<|th_n<|VC_ret<|th_r<|⟨_,res1 rfl rfl,?_⟩
     exact rfl
    ·skip
     obtain ⟨nw,rfl⟩:=Int.eq_ofNat_of_zero_le (show 0≤now by omega)
     have hN:ts.length≤8:=by omega
     have hnw:nw≤900000:=by have:=of_decide_eq_false ht77;omega
     refine VC_skip<|th_n<|VC_seq<|VC_region<|vl_v (q_assign rfl) rfl<|vl_nil<|th_n<|VC_seq<|VC_seq<|VC_region<|vl_v (q_assign rfl) rfl<|vl_nil ?_
     refine th_n<|VC_block<|VC_loop (ι:=PT) (fun x=>x.ok seed ts) (fun x=>[(1,.slice A ts.length cA),(2,vN nw),(7,.bool true),(8,vP b8 0),(9,vP br 0),(11,.slice x.A x.i x.c),(12,vN x.i)]) (fun x=>.row 22 1 (.slice x.A x.i x.c) x.i x.us::(RelR br bv bk mk ob 7 k4++(.blk b8 26 (arrT fa fb)::(LinA fa sa x.la oa da q x.i seed++(LinB fb sb q (xB0 zB.1) [] zB++x.G))))) (fun x=>ts.length-x.i) ⟨0,la0,none,0,[],[]⟩ (⟨Nat.zero_le _,rfl,fun j u t hj=>by simp at hj⟩) (kp [1,2,7,8,9,11,12] rfl) (fun w H=>St.pick (H.addNil 22 1) (ks:=[13,0,1,2,3,4,5,6,7,8,9,10,11,12]) (by decide) rfl) ?_
     rintro ⟨i,la,AS,cS,us,G⟩ hp
     obtain ⟨hi,hlen,hrd⟩:=hp
     dsimp only at hi hlen hrd
     dsimp only
     simp only [LinA,LinB,SkO,SkR,RelR,List.cons_append,List.nil_append]
     refine VC_seq<|VC_seq<|VC_region<|vl_v (q_move rfl) rfl<|vl_v (q_move rfl) rfl<|vl_v (q_lenS U23 rfl) rfl<|vl_v (q_lss_n U3 rfl rfl) rfl<|vl_nil<|th_n<|VC_cond rfl (fun ht91=>?_) (fun ht91=>?_)
     ·skip
      have hlt:i<ts.length:=of_decide_eq_true ht91
      obtain ⟨tx,htx⟩:∃ tx,ts[i]?=some tx:=⟨_,List.getElem?_eq_getElem hlt⟩
      obtain ⟨ux,hux⟩:∃ u,us0[i]?=some u:=⟨_,List.getElem?_eq_getElem (by omega)⟩
      obtain ⟨AX,cT,rfl,hkT,sT⟩:=hT i ux tx hux htx
      refine VC_skip<|th_n<|VC_seq<|VC_block<|VC_seq<|VC_seq<|VC_region<|vl_v (q_move rfl) rfl<|vl_v (q_move rfl) rfl<|vl_v (q_idxRdN (m:=i) U23 sz22 rfl rfl hlt (Reads.old hA) (by omega)) rfl<|vl_v (q_loadRd (v:=.slice AX tx.length cT) U22 rfl rfl (Reads.old hA) (by rw [Nat.mul_one];exact hux)) rfl<|vl_v (q_lenS U22 rfl) rfl ?_
      refine vl_v (q_gtr_n (q:=250) U3 rfl rfl) rfl<|vl_nil<|th_n<|VC_cond rfl (fun ht99=>?_) (fun ht99=>?_)
      ·skip
       refine VC_seq<|VC_region<|vl_v (q_move rfl) rfl<|vl_v (q_assign rfl) rfl<|vl_nil<|th_n<|VC_ret<|(th_r (bl_r (th_r (th_r (bl_r (th_r ?_))))))
       refine ⟨_,res1 rfl rfl,?_⟩
       exact rfl
      ·skip
       have h250:tx.length≤250:=by have:=of_decide_eq_false ht99;omega
       have hi8:i<8:=by omega
       have hfw:=fun {S:List Nat} {w0:World} {R:List Res} hC w H=>far_wrap (S:=S) (w0:=w0) (R:=R) (seed:=seed) (t:=tx) fa sa la oa da q i AX cT h250 hi8 hkT hC w H
       have hzf:=fun AE cE A' c' la' hc=>PT.next (x:=⟨i,la,AS,cS,us,G⟩) (seed:=seed) (A':=A') (AE:=AE) (c':=c') (la':=la') (cE:=cE) ⟨hi,hlen,hrd⟩ htx h250 hc
       have hfe:=fun y w1 h1=>far_env (seed:=seed) (t:=tx) (i:=i) h250 hi8 y w1 h1
       have lX:=envX_len seed tx i
       have oX:=envX_one seed tx i
       generalize envX seed tx i=X at hfw hzf hfe lX oX
       refine VC_skip<|th_n<|VC_seq<|VC_frame (X:=[_,_,_,_,_,_,_,_,_,_,_,_,_,_]) (fun w9 H9=>?_)
       refine VC_drawQ 15 14 [[],[0],[],[2],[3],[],[],[5,6],[7],[1,4,8],[9],[10],[10],[],[13,11,9,0,1,2,3,4,5,6,7,8,10],[12,14,0,1,2,3,4,5,6,7,8,9,10,11,13]] [[],[0],[],[2],[2,3],[],[],[5,6],[5,6,7],[0,1,2,3,4,5,6,7,8],[0,1,2,3,4,5,6,7,8,9],[0,1,2,3,4,5,6,7,8,9,10],[0,1,2,3,4,5,6,7,8,9,10],[],[0,1,2,3,4,5,6,7,8,9,10,11,13],[0,1,2,3,4,5,6,7,8,9,10,11,12,13,14]] [([],[],[],[0,1,2,3,4,5,6,7,8,9,10,11,12,13],[]),([0],[],[],[0,1,2,3,4,5,6,7,8,9,10,11,12,13],[0]),([],[],[],[0,1,2,3,4,5,6,7,8,9,10,11,12,13],[]),([2],[],[],[0,1,2,3,4,5,6,7,8,9,10,11,12,13],[2]),([2,3],[],[],[0,1,2,3,4,5,6,7,8,9,10,11,12,13],[2,3]),([],[],[],[0,1,2,3,4,5,6,7,8,9,10,11,12,13],[]),([],[],[],[0,1,2,3,4,5,6,7,8,9,10,11,12,13],[]),([5,6],[],[],[0,1,2,3,4,5,6,7,8,9,10,11,12,13],[5,6]),([5,6,7],[],[],[0,1,2,3,4,5,6,7,8,9,10,11,12,13],[5,6,7]),([0,1,2,3,4,5,6,7,8],[6,7,8],[],[0,1,2,3,4,5,9,10,11,12,13],[0,1,2,3,4,5,6,7,8]),([0,1,2,3,4,5,6,7,8,9],[],[],[0,1,2,3,4,5,9,10,11,12,13],[0,1,2,3,4,5,6,7,8,9]),([0,1,2,3,4,5,6,7,8,9,10],[],[],[0,1,2,3,4,5,9,10,11,12,13],[0,1,2,3,4,5,6,7,8,9,10]),([0,1,2,3,4,5,6,7,8,9,10],[],[],[0,1,2,3,4,5,9,10,11,12,13],[0,1,2,3,4,5,6,7,8,9,10]),([],[],[],[0,1,2,3,4,5,9,10,11,12,13],[]),([0,1,2,3,4,5,6,7,8,9,10,11,13],[],[13],[0,1,2,3,4,5,9,10,11,12,13],[0,1,2,3,4,5,6,7,8,9,10,11])] [0,1,2,3,4,5,9,10,11,12,13] [0,1,2,3,4,5,6,7,8,9,10,11,12,14] rfl rfl (by kernel_rfl)<|qp_v (fun xs gs hx=>q_idxA (m:=0) U26 sz25 rfl rfl (by omega) (r:=_) (by rw [Nat.mul_one,Nat.zero_add]))<|qp_v (fun xs gs hx=>q_load 5 U25 rfl rfl rfl rfl)<|qp_v (fun xs gs hx=>q_move rfl)<|qp_v (fun xs gs hx=>q_conv_nu8 U3 U5 rfl)<|qp_v (fun xs gs hx=>q_build (c':=bys (opB i)) rfl (built_op _))<|qp_v (fun xs gs hx=>q_move rfl)<|qp_v (fun xs gs hx=>q_move rfl)<|qp_v (fun xs gs hx=>q_idxRdN (m:=i) U23 sz22 rfl rfl hlt (Reads.own hA H9) (by omega))<|qp_v (fun xs gs hx=>q_loadRd (v:=.slice AX tx.length cT) U22 rfl rfl (Reads.own hA H9) (by rw [Nat.mul_one];exact hux)) ?_
       refine qp_callE (fun xs gs v g=>v=.tuple #[.agg (envOf X (dLS g).2).toArray,vN 0]) (fun xs gs v g=>LinA fa sa (dLS g).1 oa da q (i+1) seed++[.row 5 1 (.slice (dLS g).2.1 X.body.length (dLS g).2.2) X.body.length (bys X.body)]) F7 rfl rfl (args:=fun xs gs=>[vP fa 0,.agg (bys (opB i)).toArray,.slice AX tx.length cT]) (fun xs gs hx=>rfl) (fun xs gs hx R w1 H1=>(hfw (fun L w2 H2=>Reads.own sT H9 w2 H2) w1 H1).mono fun e w' h=>(by
        obtain ⟨la',y,h1,h2⟩:=h
        refine ⟨_,gLS la' y,h1,(by intro h;cases h),?_,?_⟩
        ·rw [dgLS]
        ·rw [dgLS,List.append_assoc];exact h2)) ?_
       refine qp_v (fun xs gs hx=>q_move rfl)<|qp_v (f:=fun _ gs=>.agg (envOf X (dLS (gs 9)).2).toArray) (fun xs gs hx=>?_) ?_
       ·have e9:=hx.1 rfl
        exact q_ext (vs:=#[.agg (envOf X (dLS (gs 9)).2).toArray,vN 0]) (congrArg some e9) rfl
       refine qp_v (f:=fun _ _=>vN 0) (fun xs gs hx=>?_) ?_
       ·have e9:=hx.1 rfl
        exact q_ext (vs:=#[.agg (envOf X (dLS (gs 9)).2).toArray,vN 0]) (congrArg some e9) rfl
       refine qp_a (fun xs gs hx=>q_alloc zr37 rfl)<|qp_storeN (fun xs gs hx=>rfl) (fun xs gs hx=>hx.2.1 rfl) (fun xs gs hx=>rfl) (fun xs gs hx=>List.append_nil _) sz37 (fun xs gs hx=>lX _) (fun xs gs hx=>oX _) (fun xs gs hx=>rfl)<|qp_end<|fun xs gs hx=>?_
       obtain ⟨f111,⟨b13,e13⟩,fw14,_⟩:=hx
       simp only [selI,ownsA,List.contains_cons,List.contains_nil,Nat.reduceBEq,Nat.reduceAdd,Bool.or_false,Bool.or_true,Bool.false_or,Bool.true_or,mask,nRow,nBlk,nRowT,tupAt_0,tupAt_1,List.append_assoc,List.nil_append,List.append_nil,List.cons_append,List.singleton_append,e13]
       obtain ⟨y9,hy9⟩:∃ z,(dLS (gs 9)).2=z:=⟨_,rfl⟩
       obtain ⟨la1,hla1⟩:∃ z,(dLS (gs 9)).1=z:=⟨_,rfl⟩
       rw [hy9,hla1]
       have lX9:=lX y9
       simp only [LinA,List.cons_append,List.nil_append]
       refine VL.keep (kp [1,2,7,8,9,11,12,91,99,113,13] rfl)<|vl_v (q_assign rfl) rfl<|vl_nil<|qn_n<|th_n<|VC_seq<|VC_region<|vl_v (q_loads 15 U37 rfl rfl rfl sz37 (by with_reducible assumption)) rfl<|l_callT F8 rfl rfl rfl (fun w1 H1=>hfe y9 w1 (Reads.row 14 rfl w1 H1)) rfl<|fun A116 c116 hc116 hm116=>vl_v (q_move rfl) rfl<|vl_v (q_ext rfl rfl) rfl<|vl_v (q_ext rfl rfl) rfl<|vl_v (q_assign rfl) rfl ?_
       refine vl_v (q_assign rfl) rfl<|vl_nil<|th_n<|VC_seq<|VC_seq<|VC_region<|vl_v (q_move rfl) rfl<|vl_v (q_as (v:=.bool false) (q_neq_k U29 rfl rfl) (by simp)) rfl<|vl_v (q_move rfl) rfl<|vl_vg rfl (q_move rfl) rfl<|vl_vg rfl (q_as (v:=.bool false) (q_neq_k U29 rfl rfl) (by simp)) rfl<|vl_v (q_pickF rfl rfl) rfl ?_
       refine vl_nil<|th_n<|VC_no (rfl)<|VC_skip<|th_n<|VC_region<|vl_v (q_move rfl) rfl<|vl_v (q_move rfl) rfl<|l_litA (cs:=[.slice A116 (enB X).length c116]) U23 in22 (by decide) rfl rfl rfl rfl (one_all rfl) rfl rfl<|fun b127=>l_append 2 rfl rfl rfl U23 U23 in22 rfl (by decide) (Reads.row 0 rfl) (by exact rfl) (by exact one_all rfl) (by omega) (by omega) rfl<|fun A128 c128 hc128=>?_
       simp only [List.set_cons_zero,List.set_cons_succ,← bys_append,← u32s_append,← u64s_append,← i64s_append,List.nil_append,Nat.zero_add]
       refine vl_v (q_assign rfl) rfl<|vl_nil<|bl_n<|th_n<|VC_region<|vl_v (q_move rfl) rfl<|vl_v (q_add_n (q:=1) rfl rfl (by omega)) rfl<|vl_v (q_assign rfl) rfl<|vl_nil<|th_n ?_
       refine ⟨⟨i+1,la1,A128,c128,us++[Value.slice A116 (enB X).length c116],Res.row 5 1 (.slice A116 (enB X).length c116) (enB X).length (bys (enB X))::G⟩,hzf _ _ _ _ _ hc116,by show ts.length-(i+1)<ts.length-i;omega,(kp [1,2,7,8,9,11,12] rfl),fun w H=>St.pickE 18 H [2,3,4,5,6,7,13,14,15,8,9,10,11,12,1] (by decide) (by decide) rfl rfl rfl⟩
     ·skip
      obtain rfl:i=ts.length:=by have:=of_decide_eq_false ht91;omega
      refine VC_exit<|(th_x (th_x (bl_xs (th_n ?_))))
      refine VC_seq<|VC_seq<|VC_region<|vl_v (q_move rfl) rfl<|vl_v (q_lenS U23 rfl) rfl<|vl_v (q_sub_i rfl rfl (by omega) (by omega)) rfl<|vl_v (q_assign rfl) rfl<|vl_nil<|th_n<|VC_block<|VC_loop (ι:=QT) (fun y=>y.ok seed ts.length nw k4) (fun y=>[(1,.slice A ts.length cA),(2,vN nw),(7,.bool true),(8,vP b8 0),(9,vP br 0),(11,.slice AS ts.length cS),(17,.int .i64 ((y.m:Int)-1))]) (fun y=>.row 22 1 (.slice AS ts.length cS) ts.length us::(RelR br bv bk mk y.o 7 k4++(.blk b8 26 (arrT fa fb)::(LinB fb sb q y.x y.L y.z++G)))) (fun y=>y.m) ⟨ts.length,xB0 zB.1,[],zB,ob,false⟩ (⟨⟨Nat.le_refl _,.inl ⟨rfl,rfl,rfl⟩⟩,hE0,hM0⟩) (kp [1,2,7,8,9,11,17] rfl) (fun w H=>St.pickE 14 H [0,1,2,3,4,5,9,10,11,12,13] (by decide) (by decide) rfl rfl rfl) ?_
      rintro ⟨m,x,L,z,ob1,kn⟩ hp
      obtain ⟨hF,hE,hM⟩:=hp
      dsimp only at hF hE hM
      dsimp only
      simp only [LinB,SkO,SkR,RelR,List.cons_append,List.nil_append]
      refine VC_seq<|VC_seq<|VC_region<|vl_v (q_move rfl) rfl<|vl_v (q_geq_k U3 rfl rfl) rfl<|vl_nil<|th_n<|VC_cond rfl (fun ht133=>?_) (fun ht133=>?_)
      ·skip
       have hm1:=of_decide_eq_true ht133
       obtain ⟨j,rfl⟩:∃ j,m=j+1:=⟨m-1,by omega⟩
       have hj:((j+1:Nat):Int)-1=(j:Int):=by omega
       rw [hj]
       have hjl:j<ts.length:=by have:=hF.le;omega
       have hj8:j<8:=by omega
       obtain ⟨tx,htx⟩:∃ tx,ts[j]?=some tx:=⟨_,List.getElem?_eq_getElem hjl⟩
       obtain ⟨ux,hux⟩:∃ u,us[j]?=some u:=⟨_,List.getElem?_eq_getElem (by omega)⟩
       obtain ⟨u0,hu0⟩:∃ u,us0[j]?=some u:=⟨_,List.getElem?_eq_getElem (by omega)⟩
       obtain ⟨h250,AE,cE,rfl,hcE,sE⟩:=hrd j ux tx hux htx
       obtain ⟨AX,cT,rfl,hkT,sT⟩:=hT j u0 tx hu0 htx
       have hrdE:=fun A m c hm hc w1 h1=>far_read (seed:=seed) (t:=tx) (i:=j) h250 hj8 A m c hm hc w1 h1
       have hfe:=fun y w1 h1=>far_env (seed:=seed) (t:=tx) (i:=j) h250 hj8 y w1 h1
       have hun:=fun {R:List Res} y hcc hC w1 H=>far_unwrap (w0:=w) (R:=R) fb sb [vP q 0] y hF hN h250 hE hcc hC w1 H
       have hst:=fun {R:List Res} y w1 H=>far_stamp (w0:=w) (R:=R) (seed:=seed) (t:=tx) br bv bk mk nw j ob1 y kn lk4 hnw hM w1 H
       have hsm:=fun y z w1 h1 h2=>far_same (seed:=seed) (t:=tx) (i:=j) hj8 y z w1 h1 h2
       have lX:=envX_len seed tx j
       have oX:=envX_one seed tx j
       have fX:=envX_f seed tx j
       have bX:=envX_body seed tx j
       have cX:(envX seed tx j).cm=comitB (opB j) [numB 0,numB 1,tx]:=by unfold envX;with_reducible rfl
       have lc:=comitB_length (opB j) [numB 0,numB 1,tx]
       have lo:=opB_length j
       have lob:(bys (opB j)).length=32:=by rw [bys_length];exact lo
       generalize envX seed tx j=X at hrdE hfe hun hst hsm lX oX fX bX cX sE hcE hux
       obtain ⟨cm,hcm⟩:∃ c,comitB (opB j) [numB 0,numB 1,tx]=c:=⟨_,rfl⟩
       rw [hcm] at hst lc cX
       have hs:=stX_f (k4:=k4) (nw:=nw) (cm:=cm) hnw lc
       generalize stX k4 nw cm=sx at hst hs
       obtain ⟨Lj,hLj⟩:∃ l,skL (pA seed) (chA seed) j=l:=⟨_,rfl⟩
       rw [hLj] at hun
       have hsf:=stN_f hs.ok.cm hs.ok.tg
       have lS:=hsf.len
       have oS:=hsf.one
       have hrp:=fun A c=>repC_f (id:=j) (b:=1) (sl:=.slice A tx.length c) (op:=opB j) (x:=sx) lo hs.ok.cm hs.ok.tg
       have hck:=fun (v0:Value) w1 h1=>ccheck_calls (opB j) [numB 0,numB 1,tx] v0 lo (by simp) (by simp only [joinB,numB,List.length_append,highB_length,List.length_nil,List.length_cons];omega) w1 h1
       rw [hcm] at hck
       refine VC_skip<|th_n<|VC_seq<|VC_block<|VC_seq<|VC_region<|vl_v (q_move rfl) rfl<|vl_v (q_move rfl) rfl<|vl_v (q_idxRdN (m:=j) U23 sz22 rfl rfl hjl (Reads.row 0 rfl) (by omega)) rfl<|vl_v (q_loadRd (v:=.slice AE (enB X).length cE) U22 rfl rfl (Reads.row 0 rfl) (by rw [Nat.mul_one];exact hux)) rfl<|l_callG F9 rfl rfl rfl (fun w1 H1=>hrdE AE _ cE rfl hcE w1 (sE w1 (fun r hr=>H1.ok r (List.mem_append_right [_,_,_,_,_,_,_,_,_,_,_] hr)))) rfl<|fun x141=>?_
       obtain ⟨y1,hy1⟩:∃ y,x141=y:=⟨_,rfl⟩
       rw [hy1]
       have lX1:=lX y1
       refine vl_v (q_move rfl) rfl<|vl_v (q_ext rfl rfl) rfl<|vl_v (q_ext rfl rfl) rfl<|l_allocA zr37 rfl<|fun b18=>l_storeA 0 rfl rfl rfl sz37 (lX _) (oX _) rfl<|vl_v (q_assign rfl) rfl<|vl_nil<|th_n<|VC_seq<|VC_region<|vl_v (q_idxA (m:=1) U26 sz25 rfl rfl (by omega) (r:=_) (by rw [Nat.mul_one,Nat.zero_add])) rfl<|vl_v (q_load 7 U25 rfl rfl rfl rfl) rfl ?_
       refine vl_v (q_loads 0 U37 rfl rfl rfl sz37 (by with_reducible assumption)) rfl ?_
       refine l_callTk 13 [8,9,10,11,12] [0,1,2,3,4,5,6,7] rfl rfl (by decide) (by decide) rfl trivial (F:=fun v N=>∃ (x':SeD) (z':SkZ) (A1:Option Addr) (c1:Nat),v=.tuple #[.slice A1 tx.length c1,.agg (bys (opB j)).toArray,vN 0]∧tx.length≤c1∧MapOf z'.2.2.1 (mapE Lj)∧Far seed ts.length j x' Lj z'.1∧N=[.blk fb 85 (lineC 1 0 sb),.blk sb 145 (seC x'++[vP q 0]),.row 5 1 (.slice A1 tx.length c1) tx.length (bys tx)]++SkO Lj z') F10 rfl rfl rfl (fun w1 H1=>(hun y1 (by have:=cap_of (H1.get (k:=6) rfl);omega) (Rest.row (T:=5) 1 rfl rfl) w1 H1).mono fun e w' h=>?_) rfl ?_
       ·obtain ⟨x',z',v,h1,h2,h3,h4⟩:=h
        obtain ⟨A1,c1,rfl,hc1,_⟩:=row_sl h4 2 rfl
        exact ⟨_,_,h1,⟨x',z',A1,c1,rfl,hc1,h2,h3,rfl⟩,by rw [List.append_assoc];exact h4⟩
       rintro v N ⟨x1,z1,A1,c1,rfl,hc1,hE1,hF1,rfl⟩
       simp only [SkO,SkR,List.cons_append,List.nil_append]
       refine vl_v (q_move rfl) rfl<|vl_v (q_ext rfl rfl) rfl<|vl_v (q_ext rfl rfl) rfl<|vl_v (q_ext rfl rfl) rfl<|l_allocA zr33 rfl<|fun b21=>vl_v (q_assign rfl) rfl<|l_storeA 0 rfl rfl rfl sz33 (by with_reducible assumption) (by with_reducible first | exact bys_one _ | exact u32s_one _ | exact u64s_one _ | exact i64s_one _ | exact n64s_one _ | assumption) (by exact rfl) ?_
       simp only [List.set_cons_zero,List.set_cons_succ]
       refine vl_v (q_assign rfl) rfl<|vl_nil<|th_n<|VC_seq<|VC_region<|vl_v (q_move rfl) rfl<|vl_v (q_loads 7 U37 rfl rfl rfl sz37 (by with_reducible assumption)) rfl<|vl_v (q_move rfl) rfl<|l_callTk 15 [10,11,12,13] [0,1,2,3,4,5,6,7,8,9,14] rfl rfl (by decide) (by decide) rfl trivial (F:=fun v N=>∃ o':Obj,v=.tuple #[.agg (stN sx).toArray,vN 0]∧MapOf o' (relE (nw / 7) (epK k4 (nw / 7)) true)∧N=RelR br bv bk mk o' 7 k4) F11 rfl rfl rfl (fun w1 H1=>(hst y1 w1 H1).mono fun e w' h=>?_) rfl ?_
       ·obtain ⟨o',h1,h2,h3⟩:=h
        exact ⟨_,_,h1,⟨o',rfl,h2,rfl⟩,h3⟩
       rintro v N ⟨o1,rfl,hM1,rfl⟩
       simp only [RelR,List.cons_append,List.nil_append]
       refine vl_v (q_move rfl) rfl<|vl_v (q_ext rfl rfl) rfl<|vl_v (q_ext rfl rfl) rfl<|l_allocA zr46 rfl<|fun b23=>l_storeA 0 rfl rfl rfl sz46 (by with_reducible assumption) (by with_reducible first | exact bys_one _ | exact u32s_one _ | exact u64s_one _ | exact i64s_one _ | exact n64s_one _ | assumption) (by exact rfl) ?_
       simp only [List.set_cons_zero,List.set_cons_succ]
       refine vl_v (q_assign rfl) rfl<|vl_nil<|th_n<|VC_seq<|VC_seq<|VC_drawV 25 [[],[0],[1],[2],[3,2],[2,4],[5,2],[6],[7,6],[6,8],[9,6],[10],[11,10],[10],[10],[13,14,10],[15,10],[16,10],[12,17,10],[10,18],[19,10],[20],[20],[22,20],[23,20],[21,24,20],[20,25]] [[],[0],[0,1],[0,1,2],[0,1,2,3],[0,1,2,3,4],[0,1,2,3,4,5],[0,1,2,3,4,5,6],[0,1,2,3,4,5,6,7],[0,1,2,3,4,5,6,7,8],[0,1,2,3,4,5,6,7,8,9],[0,1,2,3,4,5,6,7,8,9,10],[0,1,2,3,4,5,6,7,8,9,10,11],[0,1,2,3,4,5,6,7,8,9,10],[0,1,2,3,4,5,6,7,8,9,10],[0,1,2,3,4,5,6,7,8,9,10,13,14],[0,1,2,3,4,5,6,7,8,9,10,13,14,15],[0,1,2,3,4,5,6,7,8,9,10,13,14,15,16],[0,1,2,3,4,5,6,7,8,9,10,11,12,13,14,15,16,17],[0,1,2,3,4,5,6,7,8,9,10,11,12,13,14,15,16,17,18],[0,1,2,3,4,5,6,7,8,9,10,11,12,13,14,15,16,17,18,19],[0,1,2,3,4,5,6,7,8,9,10,11,12,13,14,15,16,17,18,19,20],[0,1,2,3,4,5,6,7,8,9,10,11,12,13,14,15,16,17,18,19,20],[0,1,2,3,4,5,6,7,8,9,10,11,12,13,14,15,16,17,18,19,20,22],[0,1,2,3,4,5,6,7,8,9,10,11,12,13,14,15,16,17,18,19,20,22,23],[0,1,2,3,4,5,6,7,8,9,10,11,12,13,14,15,16,17,18,19,20,21,22,23,24],[0,1,2,3,4,5,6,7,8,9,10,11,12,13,14,15,16,17,18,19,20,21,22,23,24,25]] rfl (by kernel_rfl)<|qv_v (q_move rfl)<|qv_v (q_as (v:=.bool false) (q_neq_k U29 rfl rfl) (by simp))<|qv_v (q_move rfl)<|qv_vg (rfl) (q_move rfl)<|qv_vg (rfl) (q_as (v:=.bool false) (q_neq_k U29 rfl rfl) (by simp))<|qv_v (q_pickF rfl rfl) ?_
       refine qv_v (q_move rfl)<|qv_vg (rfl) (q_move rfl)<|qv_vg (rfl) (q_as (v:=.bool false) (q_neq_k U29 rfl rfl) (by simp))<|qv_v (q_pickF rfl rfl)<|qv_v (q_move rfl)<|qv_vg (rfl) (q_move rfl)<|qv_vg (rfl) (q_str (l:=tx) U22 U5 U9 rfl (Reads.row 8 rfl) rfl)<|qv_vg (rfl) (q_move rfl)<|qv_vg (rfl) (q_move rfl)<|qv_vg (rfl) (q_idxRdN (m:=j) U23 sz22 rfl rfl hjl (Reads.old hA) (by omega))<|qv_vg (rfl) (q_loadRd (v:=.slice AX tx.length cT) U22 rfl rfl (Reads.old hA) (by rw [Nat.mul_one];exact hu0))<|qv_vg (rfl) (q_str (l:=tx) U22 U5 U9 rfl (Reads.old sT) rfl) ?_
       refine qv_vg (rfl) (q_as (v:=.bool false) (q_neStr U9 rfl rfl) (by simp))<|qv_v (q_pickF rfl rfl)<|qv_v (q_move rfl)<|qv_vg (rfl) (q_loads 5 U33 rfl rfl rfl sz33 (by with_reducible assumption))<|qv_vg (rfl) (q_move rfl)<|qv_vg (rfl) (q_conv_nu8 U3 U5 rfl)<|qv_vg (rfl) (q_build (c':=bys (opB j)) rfl (built_op _))<|qv_end<|VL.keep (kp [1,2,7,8,9,11,17,133,18,19,21,20,22,23,24,179,180,183] rfl)<|vl_vg rfl (q_as (v:=.bool false) (q_neB flat32 rfl rfl (fits_bys' lo) (fits_bys' lo)) (by simp)) rfl<|vl_v (q_pickF rfl rfl) rfl<|vl_nil ?_
       refine qn_n<|th_n<|VC_no (rfl)<|VC_skip<|th_n<|VC_seq<|VC_region<|vl_v (q_move rfl) rfl<|vl_v (q_move rfl) rfl<|vl_v (q_loads 5 U33 rfl rfl rfl sz33 (by with_reducible assumption)) rfl<|vl_v (q_loads 0 U46 rfl rfl rfl sz46 (by with_reducible assumption)) rfl<|vl_v (q_build (c':=repC j 1 (.slice A1 tx.length c1) (opB j) sx) rfl (built_rep lo hs.ok)) rfl<|l_allocA zr50 rfl ?_
       intro b25
       refine l_storeA 0 rfl rfl rfl sz50 (hrp _ _).len ((hrp _ _).one rfl) rfl<|vl_nil<|th_n<|VC_seq<|VC_region<|vl_v (q_loads 0 U50 rfl rfl rfl sz50 (hrp _ _).len) rfl<|l_callT F12 rfl rfl rfl (fun w1 H1=>repB_calls j 1 A1 tx.length c1 tx (opB j) sx (by omega) (by omega) rfl hc1 h250 lo hs.ok w1 (Reads.row 9 rfl w1 H1)) rfl<|fun A193 c193 hc193 hm193=>vl_v (q_move rfl) rfl<|vl_v (q_ext rfl rfl) rfl<|vl_v (q_ext rfl rfl) rfl<|vl_v (q_assign rfl) rfl<|vl_v (q_assign rfl) rfl ?_
       refine vl_nil<|th_n<|VC_seq<|VC_region<|vl_v (q_move rfl) rfl<|l_callG F13 rfl rfl rfl (fun w1 H1=>far_rep j 1 A193 _ c193 tx (opB j) sx (by omega) (by omega) h250 lo hs.ok w1 rfl hc193 (Reads.row 0 rfl w1 H1)) rfl<|fun x198=>?_
       obtain ⟨y2,hy2⟩:∃ y,x198=y:=⟨_,rfl⟩
       rw [hy2]
       refine vl_v (q_move rfl) rfl<|vl_v (q_ext rfl rfl) rfl<|vl_v (q_ext rfl rfl) rfl<|l_allocA zr50 rfl<|fun b28=>l_storeA 0 rfl rfl rfl sz50 (hrp _ _).len ((hrp _ _).one rfl) rfl<|vl_v (q_assign rfl) rfl<|vl_nil<|th_n<|VC_seq<|VC_region<|vl_v (q_loads 3 U50 rfl rfl rfl sz50 (hrp _ _).len) rfl<|vl_v (q_loads 0 U50 rfl rfl rfl sz50 (hrp _ _).len) rfl ?_
       refine vl_v (q_callV F14 rfl rfl rfl (fun w1 H1=>repSame_calls j 1 tx (opB j) sx A1 y2.1 c1 y2.2 (by omega) (by omega) lo hs.ok w1 (Reads.row 12 rfl w1 H1) (Reads.row 1 rfl w1 H1))) rfl<|vl_v (q_assign rfl) rfl<|vl_nil<|th_n<|VC_seq<|VC_seq<|VC_region<|vl_v (q_move rfl) rfl<|vl_v (q_as (v:=.bool false) (q_neq_k U29 rfl rfl) (by simp)) rfl<|vl_v (q_move rfl) rfl<|vl_vg rfl (q_move rfl) rfl<|vl_vg rfl (q_as (v:=.bool false) (q_neq_k U29 rfl rfl) (by simp)) rfl ?_
       refine vl_v (q_pickF rfl rfl) rfl<|vl_v (q_move rfl) rfl<|vl_vg rfl (q_move rfl) rfl<|vl_vg rfl (q_not rfl) rfl<|vl_v (q_pickF rfl rfl) rfl<|vl_v (q_move rfl) rfl<|vl_vg rfl (q_move rfl) rfl<|vl_vg rfl (q_loads 0 U50 rfl rfl rfl sz50 (hrp _ _).len) rfl<|vl_vg rfl (q_move rfl) rfl<|vl_vg rfl (q_add_n (p:=nw) (q:=50) rfl rfl (by omega)) rfl ?_
       refine l_callTk 20 [5,6,7,8] [0,1,2,3,4,9,10,11,12,13,14,15,16,17,18,19] rfl rfl (by decide) (by decide) rfl rfl (F:=fun v N=>∃ o':Obj,v=vN 0∧MapOf o' (relE (nw / 7) (epK k4 (nw / 7)) true)∧N=RelR br bv bk mk o' 7 k4) F15 rfl rfl rfl (fun w1 H1=>(repCheck_calls br bv bk mk 7 (nw+50) j 1 o1 k4 tx (opB j) sx true y2.1 y2.2 (by omega) (by omega) h250 lo hs.t.symm (cap_of (H1.get (k:=5) rfl)) (by rw [hs.cm,hs.f,hs.t];exact hcm.symm) (Rest.row (T:=5) 1 rfl rfl) lk4 hs.ok (by rw [hs.ti,hs.e]) hs.tg (by omega) (by rw [hs.ti];omega) (by rw [hs.ti];omega) (by omega) (by rw [hs.e];exact hM1) w1 H1).mono fun e w' h=>?_) rfl ?_
       ·obtain ⟨o',h1,h2,h3⟩:=h
        rw [hs.e] at h2
        exact ⟨_,_,h1,⟨o',rfl,h2,rfl⟩,h3⟩
       rintro v N ⟨o2,rfl,hM2,rfl⟩
       simp only [RelR,List.cons_append,List.nil_append]
       refine vl_vg rfl (q_as (v:=.bool false) (q_neq_k U29 rfl rfl) (by simp)) rfl<|vl_v (q_pickF rfl rfl) rfl<|vl_v (q_move rfl) rfl<|vl_vg rfl (q_fldA fo37_2 (by decide) rfl rfl) rfl<|vl_vg rfl (q_loadsAt 16 U33 rfl rfl rfl sz33 (by rw [fX,cX]) (by rw [bys_length];exact lc)) rfl<|vl_vg rfl (q_loads 9 U33 rfl rfl rfl sz33 (by with_reducible assumption)) rfl<|vl_q (q_litA (cs:=bys [UInt8.ofNat 0]) U22 in5 (by decide) rfl rfl rfl rfl (one_all rfl) rfl) rfl rfl ?_
       rintro _ ⟨b226,rfl⟩
       dsimp only [Sp.res,nRow]
       refine vl_q (q_litA (cs:=bys [UInt8.ofNat 1]) U22 in5 (by decide) rfl rfl rfl rfl (one_all rfl) rfl) rfl rfl ?_
       rintro _ ⟨b227,rfl⟩
       dsimp only [Sp.res,nRow]
       refine vl_vg rfl (q_move rfl) rfl<|vl_q (q_litA (cs:=[.slice (some ⟨b226,0,none⟩) 1 1,.slice (some ⟨b227,0,none⟩) 1 1,.slice A1 tx.length c1]) U23 in22 (by decide) rfl rfl rfl rfl (one_all rfl) rfl) rfl rfl ?_
       rintro _ ⟨b229,rfl⟩
       dsimp only [Sp.res,nRow]
       refine vl_vg rfl (q_callV F16 rfl rfl rfl (fun w1 H1=>hck _ w1 (rowsAt3 (Reads.row 0 rfl w1 H1) (by omega) (bsAt_of rfl (by simp [numB]) (Reads.row 2 rfl w1 H1)) (bsAt_of rfl (by simp [numB]) (Reads.row 1 rfl w1 H1)) (bsAt_of rfl hc1 (Reads.row 15 rfl w1 H1))))) rfl<|vl_vg rfl (q_as (v:=.bool false) (q_neq_k U29 rfl rfl) (by simp)) rfl<|vl_v (q_pickF rfl rfl) rfl<|vl_nil<|th_n<|VC_no (rfl)<|VC_skip<|th_n<|VC_seq<|VC_region<|vl_v (q_loads 19 U37 rfl rfl rfl sz37 (by with_reducible assumption)) rfl<|l_callT F8 rfl rfl rfl (fun w1 H1=>hfe y1 w1 (Reads.row 20 rfl w1 H1)) rfl ?_
       intro A235 c235 hc235 hm235
       refine vl_v (q_move rfl) rfl<|vl_v (q_ext rfl rfl) rfl<|vl_v (q_ext rfl rfl) rfl<|vl_v (q_assign rfl) rfl<|vl_v (q_assign rfl) rfl<|vl_nil<|th_n<|VC_seq<|VC_region<|vl_v (q_move rfl) rfl<|l_callG F9 rfl rfl rfl (fun w1 H1=>hrdE A235 _ c235 rfl hc235 w1 (Reads.row 0 rfl w1 H1)) rfl<|fun x240=>?_
       obtain ⟨y3,hy3⟩:∃ y,x240=y:=⟨_,rfl⟩
       rw [hy3]
       have lX3:=lX y3
       refine vl_v (q_move rfl) rfl<|vl_v (q_ext rfl rfl) rfl<|vl_v (q_ext rfl rfl) rfl<|l_allocA zr37 rfl<|fun b33=>l_storeA 0 rfl rfl rfl sz37 (lX _) (oX _) rfl<|vl_v (q_assign rfl) rfl<|vl_nil<|th_n<|VC_seq<|VC_region<|vl_v (q_loads 22 U37 rfl rfl rfl sz37 (by with_reducible assumption)) rfl<|vl_v (q_loads 0 U37 rfl rfl rfl sz37 (by with_reducible assumption)) rfl ?_
       refine vl_v (q_callV F17 rfl rfl rfl (fun w1 H1=>hsm y1 y3 w1 (Reads.row 23 rfl w1 H1) (Reads.row 1 rfl w1 H1))) rfl<|vl_v (q_assign rfl) rfl<|vl_nil<|th_n<|VC_seq<|VC_region<|vl_v (q_move rfl) rfl<|vl_v (q_as (v:=.bool false) (q_neq_k U29 rfl rfl) (by simp)) rfl<|vl_v (q_move rfl) rfl<|vl_vg rfl (q_move rfl) rfl<|vl_vg rfl (q_as (v:=.bool false) (q_neq_k U29 rfl rfl) (by simp)) rfl<|vl_v (q_pickF rfl rfl) rfl ?_
       refine vl_v (q_move rfl) rfl<|vl_vg rfl (q_move rfl) rfl<|vl_vg rfl (q_not rfl) rfl<|vl_v (q_pickF rfl rfl) rfl<|vl_nil<|th_n<|VC_no (rfl)<|VC_skip<|bl_n<|th_n<|VC_region<|vl_v (q_move rfl) rfl<|vl_v (q_sub_i rfl rfl (by omega) (by omega)) rfl ?_
       refine vl_v (q_assign rfl) rfl<|vl_nil<|th_n ?_
       refine ⟨⟨j,x1,Lj,z1,o2,true⟩,⟨hF1,hE1,hM2⟩,by show j<j+1;omega,(kp [1,2,7,8,9,11,17] rfl),fun w H=>St.pickE 26 H [24,6,7,8,9,25,16,17,19,20,21] (by decide) (by decide) rfl rfl rfl⟩
      ·skip
       have ht133:=of_decide_eq_false ht133
       refine VC_exit<|(th_x (th_x (bl_xs (th_n ?_))))
       refine VC_seq<|VC_region<|vl_v (q_move rfl) rfl<|vl_v (q_assign rfl) rfl<|vl_nil<|th_n<|VC_ret<|⟨_,res1 rfl rfl,?_⟩
       exact rfl
end Go.Proofs.YtfpdnpppcoomnaaGreat
namespace Go.PBYtfpdnpppcoomnaaGreat
open Go Go.RowKit Go.ChangeShapes Go.WideShapes Go.ChangeAt
section
variable {H : Type} {enc : TypeId × Value → H} {P : Program} {w : World} {r : Reach} {b0 : Nat}
def BsArgB (w:World) (v:Value) (l:List UInt8):Prop:=BsArg w v l∧l.length≤140737488355328
theorem open_bytesB {t e:TypeId} {v:Value} {d:DataW H} {p:List MemPlace} (ht:P.underlying t=some (.slice e)) (he:P.underlying e=some (.int .u8)) (hc:P.cellsOf e=1) (hb:P.bytesOf e=1)
 (hsz:∀ a b:List (DataW H),d=.slice a b→(a.length+b.length)*P.bytesOf e≤reachBytes)
 (hv:Value.okWide P w r b0 t v) (h:DataW.Trod enc P w 0 (fun _=>true) true t v d p):∃ l,BsArgB w v l:=by
 obtain ⟨l,hl⟩:=open_bytes ht he hc hv h
 refine ⟨l,hl,?_⟩
 obtain ⟨A,c,rfl,hc1,hc2,hs⟩:=hl
 obtain ⟨fuel,hf⟩:=h
 rcases open_ints ht he hc hf with ⟨hcs,_⟩ | ⟨x,len,cap,zs,hcs,_,hlen,hm,hz,hx,hcell,hwz⟩
 ·simp [Value.cells] at hcs
  simp [hcs.2.1]
 ·simp [Value.cells] at hcs
  obtain ⟨_,rfl,rfl⟩:=hcs
  have h1:=hsz _ _ (congrArg Prod.fst hx)
  have h2:(lits .u8 (zs.take l.length):List (DataW H)).length=l.length:=by
   simp only [if_true] at hz
   simp [lits]
   omega
  rw [hb,Nat.mul_one,h2] at h1
  have h3:=reachBytes_lt
  omega
end
end Go.PBYtfpdnpppcoomnaaGreat

