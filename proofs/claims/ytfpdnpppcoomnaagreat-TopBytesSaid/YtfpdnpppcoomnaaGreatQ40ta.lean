/- Words and laws that the proofs of this seat share, part 1 of 10. No condition. -/
import Derived.WalkKit
import Derived.WalkLawsBesides
import Derived.WalkSpells
import Derived.Laws.CopyOwn
import Derived.Orders
import Derived.Laws.Tables
import Derived.Lib.ConvBytes
import Derived.Scope
import Derived.KernelRfl
import Derived.Deep.QuietTactic
import Derived.BigQuiet
import Derived.StillTailTactics
import Derived.Lib.Hide
import Derived.DeepKeys4
import Derived.Laws.StructEq
import Derived.ProofKit
import Derived.OpenShut
import Derived.ShutString
import Derived.ChangeOld
import Derived.Below
import Derived.Deep.Slices
import Derived.Deep.Matrix
import Derived.ChangeMaps4
import Derived.WideKeyElems
import Derived.Laws.Externs
import Derived.Laws.Cover3
import Derived.MapKept
import Derived.Tactics
import Derived.Tactics2
import Derived.Defers
import Derived.Laws.Pointers
import Derived.Laws.LoneSync
import Derived.RegionTactic
import Derived.RegionCalls
import Derived.Recover
import Derived.SizedLaws
import Derived.Test.YtfpdnpppcoomnaaGreatProg
set_option linter.unusedVariables false
set_option linter.unusedSimpArgs false
set_option linter.defProp false
set_option maxRecDepth 100000
set_option maxHeartbeats 16000000
namespace Go.PBYtfpdnpppcoomnaaGreat
open Go Go.RowKit
structure Kept (S:List Nat) (w w':World):Prop where
 os:w'.os=w.os
 tape:w'.tape=w.tape
 output:w'.output=w.output
 size:w.heap.size≤w'.heap.size
 block:∀ k,k<w.heap.size→k∉S→w'.heap[k]?=w.heap[k]?
theorem Kept.refl (S:List Nat) (w:World):Kept S w w:=⟨rfl,rfl,rfl,Nat.le_refl _,fun _ _ _=>rfl⟩
theorem Kept.trans {S:List Nat} {a b c:World} (h:Kept S a b) (k:Kept S b c):Kept S a c :=
 ⟨k.os.trans h.os,k.tape.trans h.tape,k.output.trans h.output,Nat.le_trans h.size k.size,
  fun i hi hn=>(k.block i (Nat.lt_of_lt_of_le hi h.size) hn).trans (h.block i hi hn)⟩
theorem Kept.weaken {S S':List Nat} {a b:World} (h:Kept S a b) (hs:∀ k,k∈S→k∈S'):Kept S' a b :=
 ⟨h.os,h.tape,h.output,h.size,fun i hi hn=>h.block i hi (fun hm=>hn (hs i hm))⟩
theorem Kept.below {w w':World} (h:Kept [] w w'):Below w.heap.size w w' :=
 ⟨h.os,h.tape,h.output,h.size,fun k hk=>h.block k hk (by simp)⟩
theorem Kept.drew {S:List Nat} {a w:World} (h:Kept S a w):Kept S a w.drew:=⟨h.os,h.tape,h.output,h.size,h.block⟩
theorem Kept.drewN {S:List Nat} {a w:World} (n:Nat) (h:Kept S a w):Kept S a (w.drewN n):=⟨h.os,h.tape,h.output,h.size,h.block⟩
theorem Kept.cell {S:List Nat} {w w':World} (h:Kept S w w') {a:Addr} {v:Value} (hc:w.cell? a=some v) (hn:a.block∉S):w'.cell? a=some v:=by
 have hl:=World.block_lt_of_cell? w a hc
 rw [World.cell?_of_block (h.block a.block hl hn)]
 exact hc
theorem Kept.grown {w w':World} {row:Option Nat} (hg:w.grownBy w' row):Kept row.toList w w' :=
 ⟨hg.os,hg.tape,hg.output,hg.size,fun k hk hn=>hg.block k hk (by intro e;subst e;simp at hn)⟩
def Free (fz:Nat × Nat) (n:Nat):Prop:=fz.1=fz.2∨n≤fz.1
def Blk (w:World) (b:Nat) (T:TypeId) (c:List Value):Prop:=∃ fz,w.heap[b]?=some (.cells c.toArray T fz)∧Free fz c.length
def Row (w:World) (T:TypeId) (size:Nat) (v:Value) (n:Nat) (xs:List Value):Prop :=
 xs.length=n*size∧((v=.slice none 0 0∧n=0) ∨
  ∃ b cap more,v=.slice (some ⟨b,0,none⟩) n cap∧n≤cap∧cap≤maxLen∧(xs++more).length=cap*size∧Blk w b T (xs++more))
inductive Res where
 | blk (b:Nat) (T:TypeId) (c:List Value)
 | row (T:TypeId) (size:Nat) (v:Value) (n:Nat) (xs:List Value)
 | obj (b:Nat) (o:Obj)
def Res.at:Res→Option Nat
 | .blk b _ _=>some b
 | .row _ _ v _ _=>v.ownBlock
 | .obj b _=>some b
def Res.ok (w:World):Res→Prop
 | .blk b T c=>Blk w b T c
 | .row T size v n xs=>Row w T size v n xs
 | .obj b o=>w.heap[b]?=some o
theorem Blk.lt {w:World} {b:Nat} {T:TypeId} {c:List Value} (h:Blk w b T c):b<w.heap.size:=by
 obtain ⟨fz,h,_⟩:=h
 exact (Array.getElem?_eq_some_iff.1 h).1
theorem Blk.of_eq {w w':World} {b:Nat} {T:TypeId} {c:List Value} (h:Blk w b T c) (e:w'.heap[b]?=w.heap[b]?):Blk w' b T c:=by
 obtain ⟨fz,h,f⟩:=h
 exact ⟨fz,e.trans h,f⟩
theorem Row.of_eq {w w':World} {T:TypeId} {size:Nat} {v:Value} {n:Nat} {xs:List Value} (h:Row w T size v n xs)
 (e:∀ b,v.ownBlock=some b→w'.heap[b]?=w.heap[b]?):Row w' T size v n xs:=by
 obtain ⟨hl,h⟩:=h
 refine ⟨hl,?_⟩
 rcases h with h | ⟨b,cap,more,rfl,h1,h2,h3,h4⟩
 ·exact .inl h
 ·exact .inr ⟨b,cap,more,rfl,h1,h2,h3,h4.of_eq (e b rfl)⟩
theorem Res.lt {w:World} {r:Res} (h:r.ok w) {b:Nat} (hb:r.at=some b):b<w.heap.size:=by
 cases r with
 | blk b' T c=>simp only [Res.at,Option.some.injEq] at hb;subst hb;exact Blk.lt h
 | row T size v n xs =>
  obtain ⟨hl,h⟩:=h
  rcases h with ⟨rfl,_⟩ | ⟨b',cap,more,rfl,h1,h2,h3,h4⟩
  ·simp [Res.at,Value.ownBlock] at hb
  ·simp only [Res.at,Value.ownBlock,Option.some.injEq] at hb;subst hb;exact h4.lt
 | obj b' o=>simp only [Res.at,Option.some.injEq] at hb;subst hb;exact (Array.getElem?_eq_some_iff.1 h).1
theorem Res.of_eq {w w':World} {r:Res} (h:r.ok w) (e:∀ b,r.at=some b→w'.heap[b]?=w.heap[b]?):r.ok w':=by
 cases r with
 | blk b T c=>exact Blk.of_eq h (e b rfl)
 | row T size v n xs=>exact Row.of_eq h e
 | obj b o=>exact (e b rfl).trans h
structure St (S:List Nat) (w0:World) (L:List Res) (w:World):Prop where
 kept:Kept S w0 w
 ok:∀ r∈L,r.ok w
 new:∀ r∈L,∀ b,r.at=some b→w0.heap.size≤b∨b∈S
 apart:L.Pairwise (fun r s=>∀ b,r.at=some b→s.at≠some b)
section
variable {S : List Nat} {w0 w w' : World} {L : List Res} {r r' : Res} {k : Nat}
theorem St.refl (w:World):St [] w [] w:=⟨Kept.refl _ _,by simp,by simp,.nil⟩
theorem St.change (H:St S w0 L w) (hk:L[k]?=some r) (hg:w.grownBy w' r.at) (hr':r'.ok w') (hat:∀ b,r'.at=some b→r.at=some b∨w.heap.size≤b):St S w0 (L.set k r') w':=by
 have hmem:r∈L:=List.mem_of_getElem? hk
 have hlt:k<L.length:=(List.getElem?_eq_some_iff.1 hk).1
 have hother:∀ (i:Nat) (s:Res),L[i]?=some s→i≠k→∀ b,s.at=some b→r.at≠some b:=by
  intro i s hi hne b hb hrb
  have hil:i<L.length:=(List.getElem?_eq_some_iff.1 hi).1
  have hp:=List.pairwise_iff_getElem.1 H.apart
  have e1:L[i]=s:=(List.getElem?_eq_some_iff.1 hi).2
  have e2:L[k]=r:=(List.getElem?_eq_some_iff.1 hk).2
  rcases Nat.lt_or_gt_of_ne hne with h | h
  ·exact hp i k hil hlt h b (by rw [e1];exact hb) (by rw [e2];exact hrb)
  ·exact hp k i hlt hil h b (by rw [e2];exact hrb) (by rw [e1];exact hb)
 have hin:∀ s∈L.set k r',(s=r'∨∃ i,i≠k∧L[i]?=some s):=by
  intro s hs
  obtain ⟨i,hi⟩:=List.getElem?_of_mem hs
  rw [List.getElem?_set] at hi
  split at hi
  ·simp only [Option.some.injEq] at hi;exact .inl hi.symm
  ·rename_i hne;exact .inr ⟨i,fun e=>hne e.symm,hi⟩
 have hstay:∀ i s,i≠k→L[i]?=some s→s.ok w':=by
  intro i s hne hi
  refine Res.of_eq (H.ok s (List.mem_of_getElem? hi)) ?_
  intro b hb
  refine hg.block b (Res.lt (H.ok s (List.mem_of_getElem? hi)) hb) ?_
  intro e
  exact hother i s hi hne b hb e.symm
 refine ⟨?_,?_,?_,?_⟩
 ·refine ⟨hg.os.trans H.kept.os,hg.tape.trans H.kept.tape,hg.output.trans H.kept.output,Nat.le_trans H.kept.size hg.size,?_⟩
  intro b hb hn
  rw [hg.block b (Nat.lt_of_lt_of_le hb H.kept.size) ?_]
  ·exact H.kept.block b hb hn
  ·intro e
   rcases H.new r hmem b e.symm with h | h
   ·omega
   ·exact hn h
 ·intro s hs
  rcases hin s hs with rfl | ⟨i,hne,hi⟩
  ·exact hr'
  ·exact hstay i s hne hi
 ·intro s hs b hb
  rcases hin s hs with rfl | ⟨i,hne,hi⟩
  ·rcases hat b hb with h | h
   ·exact H.new r hmem b h
   ·exact .inl (Nat.le_trans H.kept.size h)
  ·exact H.new s (List.mem_of_getElem? hi) b hb
 ·rw [List.pairwise_iff_getElem]
  intro i j hi hj hij b hb
  have hi':i<L.length:=by simpa using hi
  have hj':j<L.length:=by simpa using hj
  rw [List.getElem_set] at hb
  rw [List.getElem_set]
  by_cases e1:k=i
  ·subst e1
   have e2:k≠j:=by omega
   simp only [if_true,if_neg e2] at hb ⊢
   intro hjb
   rcases hat b hb with h | h
   ·exact hother j L[j] (by simp [hj']) (fun e=>e2 e.symm) b hjb h
   ·have:=Res.lt (H.ok L[j] (List.getElem_mem hj')) hjb;omega
  ·by_cases e2:k=j
   ·subst e2
    simp only [if_true,if_neg e1] at hb ⊢
    intro hjb
    rcases hat b hjb with h | h
    ·exact hother i L[i] (by simp [hi']) (fun e=>e1 e.symm) b hb h
    ·have:=Res.lt (H.ok L[i] (List.getElem_mem hi')) hb;omega
   ·simp only [if_neg e1,if_neg e2] at hb ⊢
    exact List.pairwise_iff_getElem.1 H.apart i j hi' hj' hij b hb
theorem St.keep (H:St S w0 L w) (hK:Kept [] w w'):St S w0 L w':=by
 refine ⟨?_,?_,H.new,H.apart⟩
 ·exact H.kept.trans (hK.weaken (by simp))
 ·intro s hs
  exact Res.of_eq (H.ok s hs) (fun b hb=>hK.block b (Res.lt (H.ok s hs) hb) (by simp))
theorem St.join {N:List Res} (H:St S w0 L w) (hN:St [] w N w'):St S w0 (L++N) w':=by
 have H1:=H.keep hN.kept
 refine ⟨H1.kept,?_,?_,?_⟩
 ·intro s hs
  rcases List.mem_append.1 hs with h | h
  ·exact H1.ok s h
  ·exact hN.ok s h
 ·intro s hs b hb
  rcases List.mem_append.1 hs with h | h
  ·exact H1.new s h b hb
  ·rcases hN.new s h b hb with h' | h'
   ·exact .inl (Nat.le_trans H.kept.size h')
   ·simp at h'
 ·refine List.pairwise_append.2 ⟨H1.apart,hN.apart,?_⟩
  intro s hs t ht b hb htb
  have h1:=Res.lt (H.ok s hs) hb
  rcases hN.new t ht b htb with h' | h'
  ·omega
  ·simp at h'
theorem St.add (H:St S w0 L w) (hg:w.grownBy w' none) (hr:r.ok w') (hat:∀ b,r.at=some b→w.heap.size≤b):St S w0 (L++[r]) w':=by
 refine H.join ⟨?_,by simpa using hr,?_,by simp⟩
 ·exact ⟨hg.os,hg.tape,hg.output,hg.size,fun k hk _=>hg.block k hk (by simp)⟩
 ·intro s hs b hb
  simp only [List.mem_singleton] at hs
  subst hs
  exact .inl (hat b hb)
theorem St.addNil (H:St S w0 L w) (T:TypeId) (size:Nat):St S w0 (L++[.row T size (.slice none 0 0) 0 []]) w :=
 H.add ⟨rfl,rfl,rfl,Nat.le_refl _,fun _ _ _=>rfl⟩ ⟨by simp,.inl ⟨rfl,rfl⟩⟩ (by simp [Res.at,Value.ownBlock])
theorem St.sub {M:List Res} (H:St S w0 L w) (h:M.Sublist L):St S w0 M w :=
 ⟨H.kept,fun r hr=>H.ok r (h.subset hr),fun r hr=>H.new r (h.subset hr),H.apart.sublist h⟩
theorem St.drop (H:St S w0 L w):St S w0 [] w:=H.sub (List.nil_sublist _)
theorem St.as (H:St S w0 L w) (hk:L[k]?=some r) (hr':r'.ok w) (hat:r'.at=r.at):St S w0 (L.set k r') w :=
 H.change hk ⟨rfl,rfl,rfl,Nat.le_refl _,fun _ _ _=>rfl⟩ hr' (fun _ hb=>.inl (hat ▸ hb))
theorem St.get (H:St S w0 L w) (hk:L[k]?=some r):r.ok w:=H.ok r (List.mem_of_getElem? hk)
theorem St.blk {b:Nat} {T:TypeId} {c:List Value} (H:St S w0 L w) (hk:L[k]?=some (.blk b T c)):Blk w b T c:=H.get hk
theorem St.cell {b:Nat} {T:TypeId} {c:List Value} (H:St S w0 L w) (hk:L[k]?=some (.blk b T c)) (i:Nat):w.cell? ⟨b,i,none⟩=c[i]?:=by
 obtain ⟨fz,h,_⟩:=H.blk hk
 simp [World.cell?,h]
theorem St.old (H:St S w0 L w) {a:Addr} {v:Value} (hc:w0.cell? a=some v) (hn:a.block∉S):w.cell? a=some v:=H.kept.cell hc hn
theorem St.drew (H:St S w0 L w):St S w0 L w.drew:=H.keep (Kept.refl _ _).drew
theorem St.drewN (H:St S w0 L w) (n:Nat):St S w0 L (w.drewN n):=H.keep ((Kept.refl _ _).drewN n)
theorem Row.of_blk {w:World} {b:Nat} {T:TypeId} {c:List Value} {n size:Nat} (h:Blk w b T c) (hn:c.length=n*size) (hm:n≤maxLen):Row w T size (.slice (some ⟨b,0,none⟩) n n) n c :=
 ⟨hn,.inr ⟨b,n,[],rfl,Nat.le_refl _,hm,by simpa using hn,by simpa using h⟩⟩
theorem St.toRow {b:Nat} {T:TypeId} {c:List Value} {n size:Nat} (H:St S w0 L w) (hk:L[k]?=some (.blk b T c)) (hn:c.length=n*size) (hm:n≤maxLen) :
 St S w0 (L.set k (.row T size (.slice (some ⟨b,0,none⟩) n n) n c)) w :=
 H.as hk (Row.of_blk (H.blk hk) hn hm) rfl
end
theorem St.row1 {S:List Nat} {w0 w:World} {b n:Nat} {T:TypeId} {c:List Value} (H:St S w0 [.blk b T c] w) (hn:c.length=n) (hm:n≤maxLen):St S w0 [.row T 1 (.slice (some ⟨b,0,none⟩) n n) n c] w :=
 H.toRow (k:=0) (size:=1) rfl (by omega) hm
theorem set_last {α:Type} (L:List α) (r r':α):(L++[r]).set L.length r'=L++[r']:=by simp
theorem get_last {α:Type} (L:List α) (r:α):(L++[r])[L.length]?=some r:=by simp
def SlAt (w:World) (A:Option Addr) (vs:List Value):Prop:=∀ j v,vs[j]?=some v→∃ a,A=some a∧w.cell? (a.add j)=some v
theorem SlAt.nil (w:World) (A:Option Addr):SlAt w A []:=by intro j v h;simp at h
theorem SlAt.get {w:World} {a:Addr} {vs:List Value} (h:SlAt w (some a) vs) {j:Nat} {v:Value} (hj:vs[j]?=some v):w.cell? (a.add j)=some v:=by
 obtain ⟨a',e,hc⟩:=h j v hj
 cases e
 exact hc
theorem Addr.add_block (a:Addr) (n:Nat):(a.add n).block=a.block:=by unfold Addr.add;split<;>rfl
theorem Addr.add_add' (a:Addr) (m n:Nat) (h:n≠0∨m=0∨True):(a.add m).add n=a.add (m+n):=by
 unfold Addr.add
 by_cases hm:m=0
 ·subst hm;simp
 ·by_cases hn:n=0
  ·subst hn;simp [hm]
  ·have:m+n≠0:=by omega
   simp [hm,hn,Nat.add_assoc]
theorem SlAt.kept {S:List Nat} {w w':World} {A:Option Addr} {vs:List Value} (h:SlAt w A vs) (hK:Kept S w w') (hn:∀ a,A=some a→a.block∉S):SlAt w' A vs:=by
 intro j v hj
 obtain ⟨a,e,hc⟩:=h j v hj
 exact ⟨a,e,hK.cell hc (by rw [Addr.add_block];exact hn a e)⟩
theorem SlAt.keep {w w':World} {A:Option Addr} {vs:List Value} (h:SlAt w A vs) (hK:Kept [] w w'):SlAt w' A vs:=h.kept hK (by simp)
theorem St.sl {S:List Nat} {w0 w:World} {L:List Res} (H:St S w0 L w) {A:Option Addr} {vs:List Value} (h:SlAt w0 A vs) (hn:∀ a,A=some a→a.block∉S):SlAt w A vs:=h.kept H.kept hn
theorem St.sl0 {w0 w:World} {L:List Res} (H:St [] w0 L w) {A:Option Addr} {vs:List Value} (h:SlAt w0 A vs):SlAt w A vs:=h.keep H.kept
theorem SlAt.take {w:World} {A:Option Addr} {vs:List Value} (h:SlAt w A vs) (n:Nat):SlAt w A (vs.take n):=by
 intro j v hj
 rw [List.getElem?_take] at hj
 split at hj
 ·exact h j v hj
 ·simp at hj
theorem SlAt.left {w:World} {A:Option Addr} {vs ws:List Value} (h:SlAt w A (vs++ws)):SlAt w A vs:=by
 have:=h.take vs.length
 simpa using this
theorem SlAt.drop {w:World} {a:Addr} {vs:List Value} (h:SlAt w (some a) vs) (n:Nat):SlAt w (some (a.add n)) (vs.drop n):=by
 intro j v hj
 rw [List.getElem?_drop] at hj
 refine ⟨_,rfl,?_⟩
 rw [Addr.add_add' _ _ _ (.inr (.inr trivial))]
 exact h.get hj
theorem SlAt.dropIf {w:World} {A:Option Addr} {vs:List Value} {c n m:Nat} (h:SlAt w A vs) (hc:c=n→vs.length≤m):SlAt w (if c=n then A else A.map (·.add m)) (vs.drop m):=by
 split
 ·rename_i e
  intro j v hj
  have:=hc e
  rw [List.drop_eq_nil_of_le this] at hj
  simp at hj
 ·cases A with
  | none =>
   intro j v hj
   rw [List.getElem?_drop] at hj
   obtain ⟨a,e,_⟩:=h _ _ hj
   simp at e
  | some a=>exact h.drop m
theorem Blk.sl {w:World} {b:Nat} {T:TypeId} {c:List Value} (h:Blk w b T c) (o:Nat):SlAt w (some ⟨b,o,none⟩) (c.drop o):=by
 intro j v hj
 obtain ⟨fz,h,_⟩:=h
 refine ⟨_,rfl,?_⟩
 rw [List.getElem?_drop] at hj
 simp only [Addr.add_lit,World.cell?,h]
 simpa using hj
theorem Blk.sl0 {w:World} {b:Nat} {T:TypeId} {c:List Value} (h:Blk w b T c):SlAt w (some ⟨b,0,none⟩) c:=by simpa using h.sl 0
theorem Row.sl {w:World} {T:TypeId} {size:Nat} {A:Option Addr} {n m cap:Nat} {xs:List Value} (h:Row w T size (.slice A m cap) n xs):SlAt w A xs:=by
 obtain ⟨hl,h⟩:=h
 rcases h with ⟨e,rfl⟩ | ⟨b,cap',more,e,h1,h2,h3,h4⟩
 ·have:xs=[]:=List.eq_nil_of_length_eq_zero (by simpa using hl)
  subst this
  exact SlAt.nil _ _
 ·cases e
  exact h4.sl0.left
theorem Row.slice {w:World} {T:TypeId} {size:Nat} {v:Value} {n:Nat} {xs:List Value} (h:Row w T size v n xs):∃ A cap,v=.slice A n cap∧n≤cap∧cap≤maxLen∧SlAt w A xs:=by
 have h':=h
 obtain ⟨hl,h⟩:=h
 rcases h with ⟨rfl,rfl⟩ | ⟨b,cap',more,rfl,h1,h2,h3,h4⟩
 ·exact ⟨none,0,rfl,Nat.le_refl _,by simp [maxLen],h'.sl⟩
 ·exact ⟨_,cap',rfl,h1,h2,h'.sl⟩
theorem setRow_blk {w:World} {b:Nat} {T:TypeId} {c c':List Value} (h:Blk w b T c) (hl:c'.length=c.length):Blk (w.setRow b c'.toArray) b T c':=by
 obtain ⟨fz,h,f⟩:=h
 exact ⟨fz,setRow_heap w b _ _ T fz h,by rwa [hl]⟩
theorem grownBy_setRow (w:World) (b:Nat) (c:Array Value):w.grownBy (w.setRow b c) (some b) :=
 ⟨rfl,rfl,rfl,by simp,fun k _ hk=>setRow_other w b k _ (fun e=>hk (by simp [e]))⟩
theorem run_storeCells_free (P:Program) (g o:Nat) (t:TypeId):∀ (vs:List Value) (i:Nat) (cur:Array Value) (fz:Nat × Nat) (w:World),w.heap[g]?=some (.cells cur t fz)→Free fz cur.size→o+i+vs.length≤cur.size→(∀ v∈vs,v.oneCell'=true) →
 (storeCells ⟨g,o,none⟩ vs i).run P w=.ok () (w.setRow g (cur.toList.take (o+i)++vs++cur.toList.drop (o+i+vs.length)).toArray)
 | [],i,cur,fz,w,hg,_,_,_=>by
  simp only [storeCells,List.append_nil,List.length_nil,Nat.add_zero,List.take_append_drop,Array.toArray_toList]
  rw [setRow_self w g cur t fz hg]
  rfl
 | v::rest,i,cur,fz,w,hg,hf,hl,h1=>by
  have hi:o+i<cur.size:=by simp at hl;omega
  have hadd:(⟨g,o,none⟩:Addr).add i=⟨g,o+i,none⟩:=by unfold Addr.add;split<;>simp_all
  have hcell:w.cell? ⟨g,o+i,none⟩=some cur[o+i]:=by simp [World.cell?,hg,hi]
  have hfro:w.frozen? ⟨g,o+i,none⟩=false:=by
   simp only [World.frozen?,hg]
   rcases hf with h | h
   ·simp;omega
   ·simp;omega
  have hst:(store ((⟨g,o,none⟩:Addr).add i) v).run P w=.ok () (w.setRow g (cur.setIfInBounds (o+i) v)):=by
   rw [hadd,run_store P w _ v _ (h1 v (by simp)),hcell]
   simp [hfro,setCell_eq_setRow w g (o+i) cur t fz v hg]
  have ih:=run_storeCells_free P g o t rest (i+1) (cur.setIfInBounds (o+i) v) fz (w.setRow g (cur.setIfInBounds (o+i) v)) (setRow_heap w g cur _ t _ hg) (by simpa using hf) (by simp at hl ⊢;omega) (fun x hx=>h1 x (by simp [hx]))
  simp only [storeCells,Sem.run_bind,hst,Result.andThen_ok,ih,setRow_setRow]
  congr 3
  have e:=list_seg_step cur.toList (o+i) v rest (by simp at hl ⊢;omega)
  simpa [Array.toList_setIfInBounds,Nat.add_assoc] using e
theorem run_storeCells_blk (P:Program) {w:World} {b:Nat} {T:TypeId} {c:List Value} (h:Blk w b T c) (o:Nat) (vs:List Value) (hl:o+vs.length≤c.length) (h1:∀ v∈vs,v.oneCell'=true) :
 (storeCells ⟨b,o,none⟩ vs).run P w=.ok () (w.setRow b (splice c o vs).toArray):=by
 obtain ⟨fz,h,f⟩:=h
 have:=run_storeCells_free P b o T vs 0 c.toArray fz w h (by simpa using f) (by simpa using hl) h1
 simpa [splice] using this
theorem appendZero (z:Array Value) (n:Nat):(Builtin.zeroCells z n).size=n*z.size:=by simp [Builtin.zeroCells]
theorem nextcap_le (n c:Nat) (h:c<n):Builtin.nextslicecap n c≤2*n+1024:=by
 unfold Builtin.nextslicecap
 split
 ·omega
 ·split
  ·omega
  ·have key:∀ (k c:Nat),Builtin.growBy n k c≤max c (2*n+1024):=by
    intro k
    induction k with
    | zero=>intro c;simp [Builtin.growBy];omega
    | succ k ih =>
     intro c
     simp only [Builtin.growBy]
     split
     ·omega
     ·rename_i hc
      refine Nat.le_trans (ih _) ?_
      omega
   have:=key 4 c
   omega
theorem run_append_row {P:Program} (w:World) (t tx ty e:TypeId) (i:TypeInfo) (z:Value) (size bytes:Nat) (ht:P.underlying t=some (.slice e)) (dx:TypeDesc) (htx:P.underlying tx=some dx) (hdx:dx=.slice e∨dx=.string)
 (hi:P.info? e=some i) (hz:i.zero=some z) (hsize:i.size=size) (hby:i.bytes=bytes) (hzs:z.cells.size=size)
 (v:Value) (n:Nat) (xs:List Value) (hrow:Row w e size v n xs) (x:Value) (m:Nat) (news:List Value) (hl:news.length=m*size)
 (hlen:∀ w',(Builtin.lenOf x).run P w'=.ok m w') (hcells:∀ k,(Builtin.firstCells size m x).run P (w.drewN k)=.ok news.toArray (w.drewN k)) (h1:∀ u∈news,u.oneCell'=true)
 (hbytes:(n+m)*bytes≤70368744177664) (hmax:n+m≤70368744177664) (hb1:bytes≤1099511627776) :
 ∃ v' w',(Builtin.append_ #[t,tx] ty #[v,x]).run P w=.ok v' w'∧Row w' e size v' (n+m) (xs++news)∧w.grownBy w' v.ownBlock∧(v'.ownBlock=v.ownBlock∨v'.ownBlock=some w.heap.size):=by
 subst hsize
 subst hby
 have hml:n+m≤maxLen:=by simp only [maxLen];omega
 have hlen':(xs++news).length=(n+m)*i.size:=by rw [List.length_append,hrow.1,hl,Nat.add_mul]
 have hc0:(Builtin.firstCells i.size m x).run P w=.ok news.toArray w:=hcells 0
 have hc1:(Builtin.firstCells i.size m x).run P w.drew=.ok news.toArray w.drew:=hcells 1
 have grown:∀ (old:Nat),old<n+m→∀ (row:Option Nat),Row (w.drew.alloc (.cells (xs.toArray++news.toArray++Builtin.zeroCells z.cells (grownCap w (n+m) old e-(n+m))) e)) e i.size
  (.slice (some ⟨w.heap.size,0,none⟩) (n+m) (grownCap w (n+m) old e)) (n+m) (xs++news) ∧
  w.grownBy (w.drew.alloc (.cells (xs.toArray++news.toArray++Builtin.zeroCells z.cells (grownCap w (n+m) old e-(n+m))) e)) row:=by
  intro old ho row
  have hge:=grownCap_ge w (n+m) old e
  have hcm:grownCap w (n+m) old e≤maxLen:=grownCap_le_maxLen w (n+m) old e hml
  refine ⟨⟨hlen',.inr ⟨w.heap.size,_,(Builtin.zeroCells z.cells (grownCap w (n+m) old e-(n+m))).toList,rfl,hge,hcm,?_,⟨(0,0),?_,?_⟩⟩⟩,⟨rfl,rfl,rfl,by simp,fun k hk _=>Below.heap_alloc w.drew _ k hk⟩⟩
  ·rw [List.length_append,hlen',Array.length_toList,appendZero,hzs,← Nat.add_mul]
   congr 1
   omega
  ·have:=heap_alloc_new w.drew (.cells (xs.toArray++news.toArray++Builtin.zeroCells z.cells (grownCap w (n+m) old e-(n+m))) e)
   rw [show w.drew.heap.size=w.heap.size from rfl] at this
   rw [this]
   congr 2
   apply Array.ext'
   simp
  ·exact .inl rfl
 have hnext:∀ c,c<n+m→¬ (281474976710656<Builtin.nextslicecap (n+m) c*i.bytes):=by
  intro c hc h
  have h2:=nextcap_le (n+m) c hc
  have h3:Builtin.nextslicecap (n+m) c*i.bytes≤(2*(n+m)+1024)*i.bytes:=Nat.mul_le_mul_right _ h2
  have h4:(2*(n+m)+1024)*i.bytes=2*((n+m)*i.bytes)+1024*i.bytes:=by rw [Nat.add_mul,Nat.mul_assoc]
  have h5:1024*i.bytes≤1024*1099511627776*1:=by omega
  by_cases hb:i.bytes≤68719476736
  ·omega
  ·have h6:(n+m)*68719476736≤(n+m)*i.bytes:=Nat.mul_le_mul_left _ (by omega)
   have h7:n+m≤1024:=by omega
   have hlt:Builtin.nextslicecap (n+m) c≤2*(n+m):=by
    unfold Builtin.nextslicecap
    split
    ·omega
    ·split
     ·omega
     ·have key:∀ (k c:Nat),c≤2*(n+m)→256≤c→Builtin.growBy (n+m) k c≤2*(n+m):=by
       intro k
       induction k with
       | zero=>intro c hc _;simpa [Builtin.growBy] using hc
       | succ k ih =>
        intro c hc h256
        simp only [Builtin.growBy]
        split
        ·omega
        ·rename_i hcc
         exact ih _ (by omega) (by omega)
      exact key 4 c (by omega) (by omega)
   have h8:Builtin.nextslicecap (n+m) c*i.bytes≤2*(n+m)*i.bytes:=Nat.mul_le_mul_right _ hlt
   have h9:2*(n+m)*i.bytes=2*((n+m)*i.bytes):=by rw [Nat.mul_assoc]
   omega
 have hnotint:((n:Int)+(m:Int) > 9223372036854775807)=False:=by
  apply propext
  constructor
  ·intro h;omega
  ·intro h;exact h.elim
 rcases hrow.2 with ⟨rfl,rfl⟩ | ⟨g,cap,more,rfl,hnc,hcm,hcs,hblk⟩
 ·have hx:xs=[]:=List.eq_nil_of_length_eq_zero (by simpa using hrow.1)
  subst hx
  by_cases hm:m=0
  ·subst hm
   have hn:news=[]:=List.eq_nil_of_length_eq_zero (by simpa using hl)
   subst hn
   refine ⟨.slice none 0 0,w,?_,⟨by simp,.inl ⟨rfl,rfl⟩⟩,⟨rfl,rfl,rfl,Nat.le_refl _,fun _ _ _=>rfl⟩,.inl rfl⟩
   rcases hdx with rfl | rfl<;>simp [Builtin.append_,run_underlying ht,run_underlying htx,sizeOf,typeInfo,hi,hlen,hc0]
  ·have hgr:=grown 0 (by omega) (Value.ownBlock (.slice none 0 0))
   simp only [Nat.zero_add,List.nil_append,Array.empty_append] at hgr ⊢
   refine ⟨_,_,?_,hgr.1,hgr.2,.inr rfl⟩
   have hn0:=hnext 0 (by omega)
   simp only [Nat.zero_add] at hn0
   have h63':¬ (9223372036854775807<(m:Int)):=by omega
   have hold:(Builtin.firstCells i.size 0 (.slice none 0 0)).run P w.drew=.ok #[] w.drew:=rfl
   rcases hdx with rfl | rfl<;>simp [Builtin.append_,run_underlying ht,run_underlying htx,sizeOf,typeInfo,zeroValue,hi,hz,hlen,hm,h63',hn0,Question.forced,hold,hc1,newRow,grownCap]
 ·by_cases hroom:n+m≤cap
  ·have hfit:n*i.size+news.length≤(xs++more).length:=by rw [hcs,hl,← Nat.add_mul];exact Nat.mul_le_mul_right _ hroom
   have hst:=run_storeCells_blk P hblk (n*i.size) news hfit h1
   have hsp:splice (xs++more) (n*i.size) news=(xs++news)++(more.drop news.length):=by
    unfold splice
    rw [← hrow.1]
    simp [List.drop_append]
   refine ⟨.slice (some ⟨g,0,none⟩) (n+m) cap,_,?_,⟨hlen',.inr ⟨g,cap,more.drop news.length,rfl,hroom,hcm,?_,?_⟩⟩,grownBy_setRow w g (splice (xs++more) (n*i.size) news).toArray,.inl rfl⟩
   ·rcases hdx with rfl | rfl<;>simp [Builtin.append_,run_underlying ht,run_underlying htx,sizeOf,typeInfo,hi,hlen,hroom,hc0,Addr.add_lit,hst]
   ·have e1:=hrow.1
    rw [List.length_append] at hcs hfit ⊢
    rw [List.length_append,List.length_drop]
    omega
   ·rw [hsp]
    refine setRow_blk hblk ?_
    rw [List.length_append] at hfit ⊢
    rw [List.length_append,List.length_append,List.length_drop]
    have e1:=hrow.1
    omega
  ·have hgr:=grown cap (by omega) (some g)
   refine ⟨_,_,?_,hgr.1,hgr.2,.inr rfl⟩
   have h63':¬ (9223372036854775807<((n:Int)+(m:Int))):=by omega
   have hn0:=hnext cap (by omega)
   have hold:(Builtin.firstCells i.size n (.slice (some ⟨g,0,none⟩) n cap)).run P w.drew=.ok xs.toArray w.drew:=by
    have hs:SlAt w.drew (some ⟨g,0,none⟩) xs:=(Blk.of_eq hblk rfl).sl0.left
    have:=run_loadCells_list (P:=P) w.drew ⟨g,0,none⟩ xs (fun j v hv=>hs.get hv)
    rw [hrow.1] at this
    exact this
   rcases hdx with rfl | rfl<;>(simp [Builtin.append_,run_underlying ht,run_underlying htx,sizeOf,typeInfo,zeroValue,hi,hz,hlen,hroom,h63',hn0,Question.forced,hold,hc1,newRow,grownCap];congr 2;apply Array.ext';simp)
def bys (l:List UInt8):List Value:=l.map fun x=>.int .u8 (x.toNat:Int)
theorem bys_length (l:List UInt8):(bys l).length=l.length:=by simp [bys]
theorem bys_append (l m:List UInt8):bys (l++m)=bys l++bys m:=by simp [bys]
theorem bys_get (l:List UInt8) (i:Nat):(bys l)[i]?=(l[i]?).map fun x=>.int .u8 (x.toNat:Int):=by simp [bys]
theorem bys_take (l:List UInt8) (n:Nat):(bys l).take n=bys (l.take n):=by simp [bys]
theorem bys_drop (l:List UInt8) (n:Nat):(bys l).drop n=bys (l.drop n):=by simp [bys]
theorem bys_one (l:List UInt8):∀ v∈bys l,v.oneCell'=true:=by
 intro v hv
 obtain ⟨x,_,rfl⟩:=List.mem_map.1 hv
 rfl
section
variable {P : Program} {ops : Array Oper} {rest : List Oper} {a : Act} {w w0 : World} {Q : Exit → Act → World → Prop} {S : List Nat} {L : List Res}
variable {dst : Option Tmp} {ty : TypeId} {pos : String} {af : Array Edge} {g : Option (Nat × Bool)} {o : Oper}
theorem wpl_want (hw:Region.wanted o (yielded ops a.tmps)=true) (h:o.wp P a w (wpList P ops Q rest) Q):wpList P ops Q (o::rest) a w:=by
 unfold wpList
 rw [if_pos hw]
 exact .inl h
theorem opw_val {K:Act→World→Prop} {v:Value} {w':World} (hr:(execOp a.eval o).run P w=.ok (.value v) w') (h:K (a.put o.dst v) w'):o.wp P a w K Q:=by
 unfold Oper.wp
 rw [hr]
 exact h
theorem opw_skip {K:Act→World→Prop} {w':World} (hr:(execOp a.eval o).run P w=.ok .skip w') (h:K (a.put o.dst undef) w'):o.wp P a w K Q:=by
 unfold Oper.wp
 rw [hr]
 exact h
theorem opw_box {K:Act→World→Prop} {e:TypeId} {x:Operand} {c:List Value} (H:St S w0 L w) (hx:(a.eval x).cells.toList=c)
 (h:∀ w' b,St S w0 (L++[.blk b e c]) w'→K (a.put dst (.pointer (some ⟨b,0,none⟩))) w'):Oper.wp P { dst,op:=.box e x,type:=ty,pos,after:=af,guard:=g } a w K Q:=by
 subst hx
 refine opw_val (v:=.pointer (some ⟨w.heap.size,0,none⟩)) (w':=w.alloc (.cells (a.eval x).cells e)) (by simp [execOp,Instr.box,newVar,newRow])<|h _ _ (H.add (World.grownBy_alloc w _ none) ⟨(0,0),?_,.inl rfl⟩ (by simp [Res.at]))
 simpa using heap_alloc_new w (.cells (a.eval x).cells e)
theorem opw_alloc {K:Act→World→Prop} {e:TypeId} {i:TypeInfo} {z:Value} (H:St S w0 L w) (hi:P.info? e=some i) (hz:i.zero=some z)
 (h:∀ w' b,St S w0 (L++[.blk b e z.cells.toList]) w'→K (a.put dst (.pointer (some ⟨b,0,none⟩))) w'):Oper.wp P { dst,op:=.alloc e,type:=ty,pos,after:=af,guard:=g } a w K Q:=by
 refine opw_val (v:=.pointer (some ⟨w.heap.size,0,none⟩)) (w':=w.alloc (.cells z.cells e)) (by simp [execOp,Instr.alloc,zeroValue,typeInfo,hi,hz,newVar,newRow])<|h _ _ (H.add (World.grownBy_alloc w _ none) ⟨(0,0),?_,.inl rfl⟩ (by simp [Res.at]))
 simpa using heap_alloc_new w (.cells z.cells e)
theorem opw_call {K:Act→World→Prop} {f:FuncId} {fn:Func} {xs:Array Operand} {ats:Array TypeId} (args:List Value) (hf:P.funcs[f]?=some fn) (hb:fn.body.isSome=true) (hn:(fn.name == "runtime.NumGoroutine")=false) (hargs:xs.toList.map a.eval=args)
 (hc:Calls P f args.toArray w (fun e w'=>∃ v,e=.returned v∧K (a.put dst v) w')):Oper.wp P { dst,op:=.call { callee:=.value (.func f),args:=xs,argTypes:=ats },type:=ty,pos,after:=af,guard:=g } a w K Q:=by
 unfold Oper.wp
 have hbn:¬ fn.body=none:=by intro h;rw [h] at hb;cases hb
 have hn':¬ fn.name = "runtime.NumGoroutine" := by intro h;rw [h] at hn;simp at hn
 have e1:(callFunc f args.toArray).run P w=.ok (.enter f args.toArray) w:=by
  simp [callFunc,hf,hn',hbn]
 have e2:(#[]++xs.map a.eval++#[]:Array Value)=args.toArray:=by
  rw [← hargs]
  apply Array.ext'
  simp
 rw [execOp_call_go,e2,e1]
 refine hc.mono ?_
 rintro e w' ⟨v,rfl,h⟩
 exact h
theorem opw_load {K:Act→World→Prop} {t:TypeId} {x:Operand} {d:TypeDesc} {ad:Addr} {v:Value} (hu:P.underlying t=some d) (hd:(match d with | .struct _ | .array _ _=>true | _=>false)=false)
 (hx:a.eval x=.pointer (some ad)) (hc:w.cell? ad=some v) (h:K (a.put dst v) w):Oper.wp P { dst,op:=.load t x,type:=ty,pos,after:=af,guard:=g } a w K Q:=by
 have hagg:(isAgg t).run P w=.ok false w:=by
  unfold isAgg
  rw [Sem.run_bind,run_underlying hu w]
  cases d<;>simp_all
 exact opw_val (v:=v) (w':=w) (by simp [execOp,hx,Instr.loadAt,Instr.sureAddr,loadVar,hagg,hc]) h
theorem opw_loads {K:Act→World→Prop} {t:TypeId} {x:Operand} {d:TypeDesc} {ad:Addr} {c:List Value} (hu:P.underlying t=some d) (hd:(match d with | .struct _ | .array _ _=>true | _=>false)=true)
 (hi:(P.info? t).map (·.size)=some c.length) (hx:a.eval x=.pointer (some ad)) (hc:SlAt w (some ad) c) (h:K (a.put dst (.agg c.toArray)) w) :
 Oper.wp P { dst,op:=.load t x,type:=ty,pos,after:=af,guard:=g } a w K Q:=by
 have hagg:(isAgg t).run P w=.ok true w:=by
  unfold isAgg
  rw [Sem.run_bind,run_underlying hu w]
  cases d<;>simp_all
 have hl:=run_loadCells_list (P:=P) w ad c (fun j v hv=>hc.get hv)
 cases hq:P.info? t with
 | none=>simp [hq] at hi
 | some i =>
  have hs:i.size=c.length:=by simpa [hq] using hi
  exact opw_val (v:=.agg c.toArray) (w':=w) (by simp [execOp,hx,Instr.loadAt,Instr.sureAddr,loadVar,hagg,sizeOf,typeInfo,hq,hs,hl]) h
theorem opw_store {K:Act→World→Prop} {t:TypeId} {x y:Operand} {k b j:Nat} {T:TypeId} {c vs:List Value} (H:St S w0 L w) (hk:L[k]?=some (.blk b T c)) (hx:a.eval x=.pointer (some ⟨b,j,none⟩))
 (hv:(a.eval y).cells.toList=vs) (hi:(P.info? t).map (·.size)=some vs.length) (hl:j+vs.length≤c.length) (h1:∀ v∈vs,v.oneCell'=true)
 (h:∀ w',St S w0 (L.set k (.blk b T (splice c j vs))) w'→K (a.put dst undef) w'):Oper.wp P { dst,op:=.store t x y,type:=ty,pos,after:=af,guard:=g } a w K Q:=by
 have hst:=run_storeCells_blk P (H.blk hk) j vs hl h1
 cases hq:P.info? t with
 | none=>simp [hq] at hi
 | some i =>
  have hs:i.size=vs.length:=by simpa [hq] using hi
  have hcs:(a.eval y).cells.size=vs.length:=by rw [← hv];simp
  refine opw_skip (w':=w.setRow b (splice c j vs).toArray) (by simp [execOp,hx,Instr.storeAt,Instr.sureAddr,storeVar,sizeOf,typeInfo,hq,hs,hcs,hv,hst])<|h _ (H.change hk (grownBy_setRow w b _) (setRow_blk (H.blk hk) (length_splice _ _ _ hl)) (fun b' hb'=>.inl hb'))
theorem opw_store1 {K:Act→World→Prop} {t:TypeId} {x y:Operand} {k b j:Nat} {T:TypeId} {c:List Value} (v:Value) (H:St S w0 L w) (hk:L[k]?=some (.blk b T c)) (hx:a.eval x=.pointer (some ⟨b,j,none⟩))
 (hv:a.eval y=v) (hi:(P.info? t).map (·.size)=some 1) (hl:j<c.length) (h1:v.oneCell'=true)
 (h:∀ w',St S w0 (L.set k (.blk b T (splice c j [v]))) w'→K (a.put dst undef) w'):Oper.wp P { dst,op:=.store t x y,type:=ty,pos,after:=af,guard:=g } a w K Q :=
 opw_store (vs:=[v]) H hk hx (by rw [hv];cases v<;>first | rfl | (simp [Value.oneCell'] at h1;done)) hi (by simp;omega) (by simpa using h1) h
theorem opw_make {K:Act→World→Prop} {t e:TypeId} {l c:Operand} {z:Value} {bytes n:Nat} {kl kc:IntKind} (H:St S w0 L w) (hu:P.underlying t=some (.slice e))
 (hi:(P.info? e).map (fun i=>(i.zero,i.size,i.bytes))=some (some z,1,bytes)) (hz:z.oneCell'=true) (hl:a.eval l=.int kl (n:Int)) (hc:a.eval c=.int kc (n:Int))
 (hb:bytes*n≤281474976710656) (hm:n≤maxLen) (h:∀ w' b,St S w0 (L++[.blk b e (List.replicate n z)]) w'→K (a.put dst (.slice (some ⟨b,0,none⟩) n n)) w') :
 Oper.wp P { dst,op:=.makeSlice t l c,type:=ty,pos,after:=af,guard:=g } a w K Q:=by
 obtain ⟨i,hi',hz',h1,h2⟩:=info_parts hi
 subst h2
 have hb':(i.bytes:Int)*(n:Int)≤281474976710656:=by
  have h:((i.bytes*n:Nat):Int)≤281474976710656:=by omega
  rwa [Int.natCast_mul] at h
 have hr:=run_make (P:=P) w t e i z hu hi' hz' kl kc n n (by omega) (Int.le_refl _) hb' (by simp only [maxLen] at hm;omega)
 simp only [Int.toNat_natCast,h1,Nat.mul_one] at hr
 have hcs:z.cells=#[z]:=by cases z<;>first | rfl | (simp [Value.oneCell'] at hz;done)
 have hmc:madeCells z.cells n=(List.replicate n z).toArray:=by
  rw [hcs]
  apply Array.ext'
  simp only [madeCells]
  apply List.ext_getElem
  ·simp
  ·intro j h1 h2
   simp [Nat.mod_one]
 rw [hmc] at hr
 refine opw_val (v:=.slice (some ⟨w.heap.size,0,none⟩) n n) (by simp [execOp,hl,hc,hr];rfl)<|h _ _ (H.add (World.grownBy_alloc w _ none) ⟨(0,0),?_,.inl rfl⟩ (by simp [Res.at]))
 exact heap_alloc_new w _
theorem opw_room {K:Act→World→Prop} {t e:TypeId} {l c:Operand} {z:Value} {size bytes n:Nat} {kl kc:IntKind} (H:St S w0 L w) (hu:P.underlying t=some (.slice e))
 (hi:(P.info? e).map (fun i=>(i.zero,i.size,i.bytes))=some (some z,size,bytes)) (hl:a.eval l=.int kl 0) (hc:a.eval c=.int kc (n:Int))
 (hb:bytes*n≤281474976710656) (hm:n≤maxLen) (h:∀ w' b,St S w0 (L++[.row e size (.slice (some ⟨b,0,none⟩) 0 n) 0 []]) w'→K (a.put dst (.slice (some ⟨b,0,none⟩) 0 n)) w') :
 Oper.wp P { dst,op:=.makeSlice t l c,type:=ty,pos,after:=af,guard:=g } a w K Q:=by
 obtain ⟨i,hi',hz',h1,h2⟩:=info_parts hi
 subst h2
 subst h1
 have hb':(i.bytes:Int)*(n:Int)≤281474976710656:=by
  have h:((i.bytes*n:Nat):Int)≤281474976710656:=by omega
  rwa [Int.natCast_mul] at h
 have hr:=run_make (P:=P) w t e i z hu hi' hz' kl kc 0 n (Int.le_refl _) (by omega) hb' (by simp only [maxLen] at hm;omega)
 simp only [Int.toNat_natCast,Int.toNat_zero] at hr
 refine opw_val (v:=.slice (some ⟨w.heap.size,0,none⟩) 0 n) (by simp [execOp,hl,hc,hr];rfl)<|h _ _ (H.add (World.grownBy_alloc w _ none) ⟨by simp,.inr ⟨w.heap.size,n,(madeCells z.cells (n*i.size)).toList,rfl,Nat.zero_le _,hm,?_,⟨(0,0),?_,.inl rfl⟩⟩⟩ (by simp [Res.at,Value.ownBlock]))
 ·simp [size_madeCells]
 ·simpa using heap_alloc_new w (.cells (madeCells z.cells (n*i.size)) e)
theorem opw_lit {K:Act→World→Prop} {t e:TypeId} {n size bytes:Nat} {pr:Array (Nat × Operand)} {z:Value} (cs:List Value) (H:St S w0 L w) (hu:P.underlying t=some (.slice e))
 (hi:(P.info? e).map (fun i=>(i.zero,i.size,i.bytes))=some (some z,size,bytes)) (hsm:n*size≤16777216)
 (hf:Instr.fill (fun i=>some (i*size,size)) (if n*size=0 then #[] else (Array.range (n*size)).map (z.cells[· % z.cells.size]!)) (pr.map fun (i,x)=>(i,a.eval x)).toList=some cs.toArray)
 (hl:cs.length=n*size) (hm:n≤maxLen)
 (h:∀ w' b,St S w0 (L++[.row e size (.slice (some ⟨b,0,none⟩) n n) n cs]) w'→K (a.put dst (.slice (some ⟨b,0,none⟩) n n)) w'):Oper.wp P { dst,op:=.buildSlice t n pr,type:=ty,pos,after:=af,guard:=g } a w K Q:=by
 obtain ⟨i,hi',hz',h1',h2'⟩:=info_parts hi
 subst h1'
 have hsm':¬ (16777216<n*i.size):=by omega
 refine opw_val (v:=.slice (some ⟨w.heap.size,0,none⟩) n n) (w':=w.alloc (.cells cs.toArray e)) ?_ ?_
 ·by_cases h0:n*i.size=0
  ·simp only [h0,if_true] at hf
   simp [execOp,Instr.buildSlice,run_underlying hu,sizeOf,typeInfo,hi',h0,newRow,Array.range_zero']
   have hf':=hf
   simp only [Array.toList_map] at hf'
   rw [hf']
   rfl
  ·simp only [h0,if_false] at hf
   simp [execOp,Instr.buildSlice,run_underlying hu,sizeOf,typeInfo,hi',h0,hsm',newRow,zeroValue,hz']
   have hf':=hf
   simp only [Array.toList_map] at hf'
   rw [hf']
   rfl
 ·refine h _ _ (H.add (World.grownBy_alloc w _ none) (Row.of_blk ⟨(0,0),heap_alloc_new w _,.inl rfl⟩ hl hm) (by simp [Res.at,Value.ownBlock]))
def fillL (c:List Value):List (Nat × Value)→List Value
 | []=>c
 | p::r=>fillL (c.set p.1 p.2) r
theorem fillL_length:∀ (l:List (Nat × Value)) (c:List Value),(fillL c l).length=c.length
 | [],_=>rfl
 | p::r,c=>by rw [fillL,fillL_length r];simp
theorem fill_one:∀ (l:List (Nat × Value)) (c:List Value),(∀ p∈l,p.2.oneCell'=true∧p.1<c.length)→Instr.fill (fun i=>some (i*1,1)) c.toArray l=some (fillL c l).toArray
 | [],_,_=>rfl
 | (i,v)::r,c,h=>by
  have hv:=(h (i,v) (by simp)).1
  have hi:=(h (i,v) (by simp)).2
  have hcs:v.cells=#[v]:=by cases v<;>first | rfl | (simp [Value.oneCell'] at hv;done)
  simp only at hi
  have hlt:¬ (c.length<i+1):=by omega
  have ih:=fill_one r (c.set i v) (fun p hp=>by have:=h p (by simp [hp]);simpa using this)
  simp only [Instr.fill,hcs]
  simp [hlt,fillL]
  simpa using ih
theorem opw_lit1 {K:Act→World→Prop} {t e:TypeId} {n bytes:Nat} {pr:Array (Nat × Operand)} {z:Value} (ps:List (Nat × Value)) (H:St S w0 L w) (hu:P.underlying t=some (.slice e))
 (hi:(P.info? e).map (fun i=>(i.zero,i.size,i.bytes))=some (some z,1,bytes)) (hsm:n≤16777216) (hz:z.oneCell'=true)
 (hp:(pr.toList.map fun p=>(p.1,a.eval p.2))=ps) (h1:∀ p∈ps,p.2.oneCell'=true∧p.1<n)
 (h:∀ w' b,St S w0 (L++[.row e 1 (.slice (some ⟨b,0,none⟩) n n) n (fillL (List.replicate n z) ps)]) w'→K (a.put dst (.slice (some ⟨b,0,none⟩) n n)) w'):Oper.wp P { dst,op:=.buildSlice t n pr,type:=ty,pos,after:=af,guard:=g } a w K Q:=by
 have hcs:z.cells=#[z]:=by cases z<;>first | rfl | (simp [Value.oneCell'] at hz;done)
 have hz:(if n*1=0 then #[] else (Array.range (n*1)).map (z.cells[· % z.cells.size]!))=(List.replicate n z).toArray:=by
  split
  ·rename_i h0
   have:n=0:=by omega
   subst this
   rfl
  ·rw [hcs,Nat.mul_one]
   apply Array.ext'
   apply List.ext_getElem
   ·simp
   ·intro j h1 h2
    simp [Nat.mod_one]
 refine opw_lit (fillL (List.replicate n z) ps) H hu hi (by omega) ?_ (by rw [fillL_length];simp) (by simp only [maxLen];omega) h
 rw [hz,Array.toList_map]
 have e:(pr.toList.map fun x=>match x with | (i,x)=>(i,a.eval x))=ps:=by rw [← hp]
 rw [e]
 exact fill_one ps _ (by simpa using h1)
theorem opw_append {K:Act→World→Prop} {t tx e:TypeId} {s x:Operand} {z:Value} {size bytes n m cx k:Nat} {v:Value} {xs news:List Value} {A:Option Addr} (H:St S w0 L w)
 (hk:L[k]?=some (.row e size v n xs)) (hu:P.underlying t=some (.slice e)) (htx:P.underlying tx=some (.slice e))
 (hi:(P.info? e).map (fun i=>(i.zero,i.size,i.bytes))=some (some z,size,bytes)) (hzs:z.cells.size=size) (hb1:bytes≤1099511627776)
 (hs:a.eval s=v) (hx:a.eval x=.slice A m cx) (hA:SlAt w A news) (hl:news.length=m*size) (h1:∀ u∈news,u.oneCell'=true)
 (hbytes:(n+m)*bytes≤70368744177664) (hmax:n+m≤70368744177664)
 (h:∀ w' v',St S w0 (L.set k (.row e size v' (n+m) (xs++news))) w'→K (a.put dst v') w') :
 Oper.wp P { dst,op:=.call { callee:=.builtin .append,args:=#[s,x],argTypes:=#[t,tx] },type:=ty,pos,after:=af,guard:=g } a w K Q:=by
 obtain ⟨i,hi,hz',h1',h2'⟩:=info_parts hi
 have hcells:∀ k,(Builtin.firstCells size m (.slice A m cx)).run P (w.drewN k)=.ok news.toArray (w.drewN k):=by
  intro j
  cases A with
  | none =>
   have:news=[]:=by
    cases news with
    | nil=>rfl
    | cons u r=>obtain ⟨a',e,_⟩:=hA 0 u rfl;simp at e
   subst this
   rfl
  | some ad =>
   have:=run_loadCells_list (P:=P) (w.drewN j) ad news (fun i u hu=>hA.get hu)
   rw [hl] at this
   exact this
 obtain ⟨v',w',hr,hrow,hg,hat⟩:=run_append_row (P:=P) w t tx ty e i z size bytes hu (.slice e) htx (.inl rfl) hi hz' h1' h2' hzs v n xs (H.get hk) (.slice A m cx) m news hl (fun w'=>rfl) hcells h1 hbytes hmax hb1
 refine opw_val (v:=v') (w':=w') (by simp only [BigFrame.execOp_builtin,BigFrame.builtin_append,List.map_toArray,List.map_cons,List.map_nil,hs,hx,Sem.run_bind,hr,Result.andThen_ok,Sem.run_pure])<|h _ _ (H.change hk hg hrow ?_)
 intro b hb
 simp only [Res.at] at hb ⊢
 rcases hat with e | e
 ·exact .inl (e ▸ hb)
 ·rw [hb] at e;simp only [Option.some.injEq] at e;exact .inr (by omega)
theorem run_sliceBound_nat {P:Program} {w:World} {k:IntKind} {i y:Nat} {code:BoundsCode} (h:i≤y):(Instr.sliceBound (.int k (i:Int)) y code).run P w=.ok i w:=by
 have h1:(0:Int)≤(i:Int)∧(i:Int)≤(y:Int):=by omega
 simp [Instr.sliceBound,asIntOf,h]
theorem opw_slice {K:Act→World→Prop} {t e:TypeId} {x:Operand} {lo hi:Option Operand} {size n c:Nat} {A:Option Addr} (l h:Nat) (vs:List Value) (hu:P.underlying t=some (.slice e)) (hi':(P.info? e).map (·.size)=some size)
 (hx:a.eval x=.slice A n c) (hlo:(lo=none∧l=0)∨∃ k y,lo=some y∧a.eval y=.int k (l:Int)) (hhi:(hi=none∧h=n)∨∃ k y,hi=some y∧a.eval y=.int k (h:Int)) (hlh:l≤h) (hhc:h≤c) (hvs:vs.length≤c*size)
 (hk:∀ B,(∀ w',SlAt w' A vs→SlAt w' B ((vs.drop (l*size)).take ((h-l)*size)))→K (a.put dst (.slice B (h-l) (c-l))) w) :
 Oper.wp P { dst,op:=.slice t x lo hi none,type:=ty,pos,after:=af,guard:=g } a w K Q:=by
 cases hq:P.info? e with
 | none=>simp [hq] at hi'
 | some i =>
  have hs:i.size=size:=by simpa [hq] using hi'
  refine opw_val (v:=.slice (if c=l then A else A.map (·.add (l*size))) (h-l) (c-l)) (w':=w) ?_ (hk _ (fun w' hA=>(hA.dropIf (m:=l*size) (fun e=>by rw [e] at hvs;exact hvs)).take _))
  have hl1:∀ y k,a.eval y=.int k (l:Int)→∀ code,(Instr.sliceBound (a.eval y) h code).run P w=.ok l w:=fun y k hy code=>by rw [hy];exact run_sliceBound_nat hlh
  have hh1:∀ y k,a.eval y=.int k (h:Int)→∀ code,(Instr.sliceBound (a.eval y) c code).run P w=.ok h w:=fun y k hy code=>by rw [hy];exact run_sliceBound_nat hhc
  rcases hlo with ⟨rfl,rfl⟩ | ⟨k,y,rfl,hy⟩<;>rcases hhi with ⟨rfl,rfl⟩ | ⟨k',y',rfl,hy'⟩
  ·simp [execOp,Instr.sliceAt,Instr.slice,Instr.sliceBounds,run_underlying hu,hx,sizeOf,typeInfo,hq,hs]
  ·simp [execOp,Instr.sliceAt,Instr.slice,Instr.sliceBounds,run_underlying hu,hx,sizeOf,typeInfo,hq,hs,hh1 y' k' hy']
  ·simp [execOp,Instr.sliceAt,Instr.slice,Instr.sliceBounds,run_underlying hu,hx,sizeOf,typeInfo,hq,hs,hl1 y k hy]
  ·simp [execOp,Instr.sliceAt,Instr.slice,Instr.sliceBounds,run_underlying hu,hx,sizeOf,typeInfo,hq,hs,hl1 y k hy,hh1 y' k' hy']
theorem opw_sliceB {K:Act→World→Prop} {t e:TypeId} {x:Operand} {lo hi:Option Operand} {n c:Nat} {A:Option Addr} (l h:Nat) (bs:List UInt8) (hu:P.underlying t=some (.slice e)) (hi':(P.info? e).map (·.size)=some 1)
 (hx:a.eval x=.slice A n c) (hlo:(lo=none∧l=0)∨∃ k y,lo=some y∧a.eval y=.int k (l:Int)) (hhi:(hi=none∧h=n)∨∃ k y,hi=some y∧a.eval y=.int k (h:Int)) (hlh:l≤h) (hhc:h≤c) (hvs:bs.length≤c)
 (hk:∀ B,(∀ w',SlAt w' A (bys bs)→SlAt w' B (bys ((bs.take h).drop l)))→K (a.put dst (.slice B (h-l) (c-l))) w) :
 Oper.wp P { dst,op:=.slice t x lo hi none,type:=ty,pos,after:=af,guard:=g } a w K Q:=by
 refine opw_slice l h (bys bs) hu hi' hx hlo hhi hlh hhc (by rw [bys_length];omega) (fun B hB=>hk B (fun w' hA=>?_))
 have:=hB w' hA
 rw [Nat.mul_one,Nat.mul_one,bys_drop,bys_take] at this
 rwa [List.drop_take]
theorem opw_str {K:Act→World→Prop} {src d e:TypeId} {x:Operand} {A:Option Addr} {n c:Nat} {l:List UInt8} (hs:P.underlying src=some (.slice e)) (he:P.underlying e=some (.int .u8)) (hd:P.underlying d=some .string)
 (hx:a.eval x=.slice A n c) (hA:SlAt w A (bys l)) (hn:n=l.length) (h:K (a.put dst (.string ⟨l.toArray⟩)) w):Oper.wp P { dst,op:=.convert src d x,type:=ty,pos,after:=af,guard:=g } a w K Q:=by
 subst hn
 refine opw_val (v:=.string ⟨l.toArray⟩) (w':=w) ?_ h
 have hb:(Conv.bytesToString (.slice A l.length c)).run P w=.ok (.string ⟨l.toArray⟩) w:=by
  cases A with
  | none =>
   have:l=[]:=by
    cases l with
    | nil=>rfl
    | cons u r=>obtain ⟨a',e,_⟩:=hA 0 _ rfl;simp at e
   subst this
   rfl
  | some ad =>
   have hl:=run_loadCells_list (P:=P) w ad (bys l) (fun i u hu=>hA.get hu)
   rw [bys_length] at hl
   have hr:=run_bytesToString (P:=P) w ad l.length c (l.map fun x=>(x.toNat:Int)) (by rw [hl];simp [bys])
   rw [hr,foldl_push_bytes]
   simp [ByteArray.empty,ByteArray.emptyWithCapacity,Function.comp_def]
   rfl
 simp [execOp,hx,run_convert_bytes_string (P:=P) w src d e A l.length c hs he hd,hb]
end
def Stop (p:Prop):Prop:=p
section
variable {P : Program} {ops : Array Oper} {rest : List Oper} {a : Act} {w : World} {Q : Exit → Act → World → Prop}
variable {dst : Option Tmp} {ty : TypeId} {pos : String} {af : Array Edge} {g : Option (Nat × Bool)}
theorem stop_box {e:TypeId} {x:Operand} (h:Stop (wpList P ops Q ({ dst,op:=.box e x,type:=ty,pos,after:=af,guard:=none }::rest) a w)):wpList P ops Q ({ dst,op:=.box e x,type:=ty,pos,after:=af,guard:=none }::rest) a w:=h
theorem stop_alloc {e:TypeId} (h:Stop (wpList P ops Q ({ dst,op:=.alloc e,type:=ty,pos,after:=af,guard:=none }::rest) a w)):wpList P ops Q ({ dst,op:=.alloc e,type:=ty,pos,after:=af,guard:=none }::rest) a w:=h
theorem stop_load {e:TypeId} {x:Operand} (h:Stop (wpList P ops Q ({ dst,op:=.load e x,type:=ty,pos,after:=af,guard:=none }::rest) a w)):wpList P ops Q ({ dst,op:=.load e x,type:=ty,pos,after:=af,guard:=none }::rest) a w:=h
theorem stop_store {e:TypeId} {x y:Operand} (h:Stop (wpList P ops Q ({ dst,op:=.store e x y,type:=ty,pos,after:=af,guard:=none }::rest) a w)):wpList P ops Q ({ dst,op:=.store e x y,type:=ty,pos,after:=af,guard:=none }::rest) a w:=h
theorem stop_make {e:TypeId} {x y:Operand} (h:Stop (wpList P ops Q ({ dst,op:=.makeSlice e x y,type:=ty,pos,after:=af,guard:=none }::rest) a w)):wpList P ops Q ({ dst,op:=.makeSlice e x y,type:=ty,pos,after:=af,guard:=none }::rest) a w:=h
theorem stop_lit {e:TypeId} {n:Nat} {pr:Array (Nat × Operand)} (h:Stop (wpList P ops Q ({ dst,op:=.buildSlice e n pr,type:=ty,pos,after:=af,guard:=none }::rest) a w)):wpList P ops Q ({ dst,op:=.buildSlice e n pr,type:=ty,pos,after:=af,guard:=none }::rest) a w:=h
theorem stop_append {xs:Array Operand} {ts:Array TypeId} (h:Stop (wpList P ops Q ({ dst,op:=.call { callee:=.builtin .append,args:=xs,argTypes:=ts },type:=ty,pos,after:=af,guard:=none }::rest) a w)):wpList P ops Q ({ dst,op:=.call { callee:=.builtin .append,args:=xs,argTypes:=ts },type:=ty,pos,after:=af,guard:=none }::rest) a w:=h
theorem stop_copy {xs:Array Operand} {ts:Array TypeId} (h:Stop (wpList P ops Q ({ dst,op:=.call { callee:=.builtin .copy,args:=xs,argTypes:=ts },type:=ty,pos,after:=af,guard:=none }::rest) a w)):wpList P ops Q ({ dst,op:=.call { callee:=.builtin .copy,args:=xs,argTypes:=ts },type:=ty,pos,after:=af,guard:=none }::rest) a w:=h
theorem stop_map {e:TypeId} {r:Option Operand} (h:Stop (wpList P ops Q ({ dst,op:=.makeMap e r,type:=ty,pos,after:=af,guard:=none }::rest) a w)):wpList P ops Q ({ dst,op:=.makeMap e r,type:=ty,pos,after:=af,guard:=none }::rest) a w:=h
theorem stop_lookup {e:TypeId} {x y:Operand} {b:Bool} (h:Stop (wpList P ops Q ({ dst,op:=.lookup e x y b,type:=ty,pos,after:=af,guard:=none }::rest) a w)):wpList P ops Q ({ dst,op:=.lookup e x y b,type:=ty,pos,after:=af,guard:=none }::rest) a w:=h
theorem stop_update {e:TypeId} {x y z:Operand} (h:Stop (wpList P ops Q ({ dst,op:=.mapUpdate e x y z,type:=ty,pos,after:=af,guard:=none }::rest) a w)):wpList P ops Q ({ dst,op:=.mapUpdate e x y z,type:=ty,pos,after:=af,guard:=none }::rest) a w:=h
theorem stop_delete {xs:Array Operand} {ts:Array TypeId} (h:Stop (wpList P ops Q ({ dst,op:=.call { callee:=.builtin .delete,args:=xs,argTypes:=ts },type:=ty,pos,after:=af,guard:=none }::rest) a w)):wpList P ops Q ({ dst,op:=.call { callee:=.builtin .delete,args:=xs,argTypes:=ts },type:=ty,pos,after:=af,guard:=none }::rest) a w:=h
theorem stop_clear {xs:Array Operand} {ts:Array TypeId} (h:Stop (wpList P ops Q ({ dst,op:=.call { callee:=.builtin .clear,args:=xs,argTypes:=ts },type:=ty,pos,after:=af,guard:=none }::rest) a w)):wpList P ops Q ({ dst,op:=.call { callee:=.builtin .clear,args:=xs,argTypes:=ts },type:=ty,pos,after:=af,guard:=none }::rest) a w:=h
theorem stop_arr {e:TypeId} {x:Operand} (h:Stop (wpList P ops Q ({ dst,op:=.sliceToArrayPointer e x,type:=ty,pos,after:=af,guard:=none }::rest) a w)):wpList P ops Q ({ dst,op:=.sliceToArrayPointer e x,type:=ty,pos,after:=af,guard:=none }::rest) a w:=h
theorem stop_slice {e:TypeId} {x:Operand} {lo hi mx:Option Operand} (h:Stop (wpList P ops Q ({ dst,op:=.slice e x lo hi mx,type:=ty,pos,after:=af,guard:=none }::rest) a w)):wpList P ops Q ({ dst,op:=.slice e x lo hi mx,type:=ty,pos,after:=af,guard:=none }::rest) a w:=h
theorem stop_conv {e f:TypeId} {x:Operand} (h:Stop (wpList P ops Q ({ dst,op:=.convert e f x,type:=ty,pos,after:=af,guard:=none }::rest) a w)):wpList P ops Q ({ dst,op:=.convert e f x,type:=ty,pos,after:=af,guard:=none }::rest) a w:=h
theorem stop_idx {e:TypeId} {x y:Operand} (h:Stop (wpList P ops Q ({ dst,op:=.index e x y,type:=ty,pos,after:=af,guard:=none }::rest) a w)):wpList P ops Q ({ dst,op:=.index e x y,type:=ty,pos,after:=af,guard:=none }::rest) a w:=h
theorem stopg_box {e:TypeId} {x:Operand} {gd:Nat × Bool} (hw:Region.wanted { dst,op:=.box e x,type:=ty,pos,after:=af,guard:=some gd } (yielded ops a.tmps)=true) (h:Stop (wpList P ops Q ({ dst,op:=.box e x,type:=ty,pos,after:=af,guard:=some gd }::rest) a w)):wpList P ops Q ({ dst,op:=.box e x,type:=ty,pos,after:=af,guard:=some gd }::rest) a w:=h
theorem stopg_alloc {e:TypeId} {gd:Nat × Bool} (hw:Region.wanted { dst,op:=.alloc e,type:=ty,pos,after:=af,guard:=some gd } (yielded ops a.tmps)=true) (h:Stop (wpList P ops Q ({ dst,op:=.alloc e,type:=ty,pos,after:=af,guard:=some gd }::rest) a w)):wpList P ops Q ({ dst,op:=.alloc e,type:=ty,pos,after:=af,guard:=some gd }::rest) a w:=h
theorem stopg_load {e:TypeId} {x:Operand} {gd:Nat × Bool} (hw:Region.wanted { dst,op:=.load e x,type:=ty,pos,after:=af,guard:=some gd } (yielded ops a.tmps)=true) (h:Stop (wpList P ops Q ({ dst,op:=.load e x,type:=ty,pos,after:=af,guard:=some gd }::rest) a w)):wpList P ops Q ({ dst,op:=.load e x,type:=ty,pos,after:=af,guard:=some gd }::rest) a w:=h
theorem stopg_store {e:TypeId} {x y:Operand} {gd:Nat × Bool} (hw:Region.wanted { dst,op:=.store e x y,type:=ty,pos,after:=af,guard:=some gd } (yielded ops a.tmps)=true) (h:Stop (wpList P ops Q ({ dst,op:=.store e x y,type:=ty,pos,after:=af,guard:=some gd }::rest) a w)):wpList P ops Q ({ dst,op:=.store e x y,type:=ty,pos,after:=af,guard:=some gd }::rest) a w:=h
theorem stopg_make {e:TypeId} {x y:Operand} {gd:Nat × Bool} (hw:Region.wanted { dst,op:=.makeSlice e x y,type:=ty,pos,after:=af,guard:=some gd } (yielded ops a.tmps)=true) (h:Stop (wpList P ops Q ({ dst,op:=.makeSlice e x y,type:=ty,pos,after:=af,guard:=some gd }::rest) a w)):wpList P ops Q ({ dst,op:=.makeSlice e x y,type:=ty,pos,after:=af,guard:=some gd }::rest) a w:=h
theorem stopg_lit {e:TypeId} {n:Nat} {pr:Array (Nat × Operand)} {gd:Nat × Bool} (hw:Region.wanted { dst,op:=.buildSlice e n pr,type:=ty,pos,after:=af,guard:=some gd } (yielded ops a.tmps)=true) (h:Stop (wpList P ops Q ({ dst,op:=.buildSlice e n pr,type:=ty,pos,after:=af,guard:=some gd }::rest) a w)):wpList P ops Q ({ dst,op:=.buildSlice e n pr,type:=ty,pos,after:=af,guard:=some gd }::rest) a w:=h
theorem stopg_append {xs:Array Operand} {ts:Array TypeId} {gd:Nat × Bool} (hw:Region.wanted { dst,op:=.call { callee:=.builtin .append,args:=xs,argTypes:=ts },type:=ty,pos,after:=af,guard:=some gd } (yielded ops a.tmps)=true) (h:Stop (wpList P ops Q ({ dst,op:=.call { callee:=.builtin .append,args:=xs,argTypes:=ts },type:=ty,pos,after:=af,guard:=some gd }::rest) a w)):wpList P ops Q ({ dst,op:=.call { callee:=.builtin .append,args:=xs,argTypes:=ts },type:=ty,pos,after:=af,guard:=some gd }::rest) a w:=h
theorem stopg_copy {xs:Array Operand} {ts:Array TypeId} {gd:Nat × Bool} (hw:Region.wanted { dst,op:=.call { callee:=.builtin .copy,args:=xs,argTypes:=ts },type:=ty,pos,after:=af,guard:=some gd } (yielded ops a.tmps)=true) (h:Stop (wpList P ops Q ({ dst,op:=.call { callee:=.builtin .copy,args:=xs,argTypes:=ts },type:=ty,pos,after:=af,guard:=some gd }::rest) a w)):wpList P ops Q ({ dst,op:=.call { callee:=.builtin .copy,args:=xs,argTypes:=ts },type:=ty,pos,after:=af,guard:=some gd }::rest) a w:=h
theorem stopg_map {e:TypeId} {r:Option Operand} {gd:Nat × Bool} (hw:Region.wanted { dst,op:=.makeMap e r,type:=ty,pos,after:=af,guard:=some gd } (yielded ops a.tmps)=true) (h:Stop (wpList P ops Q ({ dst,op:=.makeMap e r,type:=ty,pos,after:=af,guard:=some gd }::rest) a w)):wpList P ops Q ({ dst,op:=.makeMap e r,type:=ty,pos,after:=af,guard:=some gd }::rest) a w:=h
theorem stopg_lookup {e:TypeId} {x y:Operand} {b:Bool} {gd:Nat × Bool} (hw:Region.wanted { dst,op:=.lookup e x y b,type:=ty,pos,after:=af,guard:=some gd } (yielded ops a.tmps)=true) (h:Stop (wpList P ops Q ({ dst,op:=.lookup e x y b,type:=ty,pos,after:=af,guard:=some gd }::rest) a w)):wpList P ops Q ({ dst,op:=.lookup e x y b,type:=ty,pos,after:=af,guard:=some gd }::rest) a w:=h
theorem stopg_update {e:TypeId} {x y z:Operand} {gd:Nat × Bool} (hw:Region.wanted { dst,op:=.mapUpdate e x y z,type:=ty,pos,after:=af,guard:=some gd } (yielded ops a.tmps)=true) (h:Stop (wpList P ops Q ({ dst,op:=.mapUpdate e x y z,type:=ty,pos,after:=af,guard:=some gd }::rest) a w)):wpList P ops Q ({ dst,op:=.mapUpdate e x y z,type:=ty,pos,after:=af,guard:=some gd }::rest) a w:=h
theorem stopg_delete {xs:Array Operand} {ts:Array TypeId} {gd:Nat × Bool} (hw:Region.wanted { dst,op:=.call { callee:=.builtin .delete,args:=xs,argTypes:=ts },type:=ty,pos,after:=af,guard:=some gd } (yielded ops a.tmps)=true) (h:Stop (wpList P ops Q ({ dst,op:=.call { callee:=.builtin .delete,args:=xs,argTypes:=ts },type:=ty,pos,after:=af,guard:=some gd }::rest) a w)):wpList P ops Q ({ dst,op:=.call { callee:=.builtin .delete,args:=xs,argTypes:=ts },type:=ty,pos,after:=af,guard:=some gd }::rest) a w:=h
theorem stopg_clear {xs:Array Operand} {ts:Array TypeId} {gd:Nat × Bool} (hw:Region.wanted { dst,op:=.call { callee:=.builtin .clear,args:=xs,argTypes:=ts },type:=ty,pos,after:=af,guard:=some gd } (yielded ops a.tmps)=true) (h:Stop (wpList P ops Q ({ dst,op:=.call { callee:=.builtin .clear,args:=xs,argTypes:=ts },type:=ty,pos,after:=af,guard:=some gd }::rest) a w)):wpList P ops Q ({ dst,op:=.call { callee:=.builtin .clear,args:=xs,argTypes:=ts },type:=ty,pos,after:=af,guard:=some gd }::rest) a w:=h
theorem stopg_arr {e:TypeId} {x:Operand} {gd:Nat × Bool} (hw:Region.wanted { dst,op:=.sliceToArrayPointer e x,type:=ty,pos,after:=af,guard:=some gd } (yielded ops a.tmps)=true) (h:Stop (wpList P ops Q ({ dst,op:=.sliceToArrayPointer e x,type:=ty,pos,after:=af,guard:=some gd }::rest) a w)):wpList P ops Q ({ dst,op:=.sliceToArrayPointer e x,type:=ty,pos,after:=af,guard:=some gd }::rest) a w:=h
theorem stopg_slice {e:TypeId} {x:Operand} {lo hi mx:Option Operand} {gd:Nat × Bool} (hw:Region.wanted { dst,op:=.slice e x lo hi mx,type:=ty,pos,after:=af,guard:=some gd } (yielded ops a.tmps)=true) (h:Stop (wpList P ops Q ({ dst,op:=.slice e x lo hi mx,type:=ty,pos,after:=af,guard:=some gd }::rest) a w)):wpList P ops Q ({ dst,op:=.slice e x lo hi mx,type:=ty,pos,after:=af,guard:=some gd }::rest) a w:=h
theorem stopg_conv {e f:TypeId} {x:Operand} {gd:Nat × Bool} (hw:Region.wanted { dst,op:=.convert e f x,type:=ty,pos,after:=af,guard:=some gd } (yielded ops a.tmps)=true) (h:Stop (wpList P ops Q ({ dst,op:=.convert e f x,type:=ty,pos,after:=af,guard:=some gd }::rest) a w)):wpList P ops Q ({ dst,op:=.convert e f x,type:=ty,pos,after:=af,guard:=some gd }::rest) a w:=h
theorem stopg_idx {e:TypeId} {x y:Operand} {gd:Nat × Bool} (hw:Region.wanted { dst,op:=.index e x y,type:=ty,pos,after:=af,guard:=some gd } (yielded ops a.tmps)=true) (h:Stop (wpList P ops Q ({ dst,op:=.index e x y,type:=ty,pos,after:=af,guard:=some gd }::rest) a w)):wpList P ops Q ({ dst,op:=.index e x y,type:=ty,pos,after:=af,guard:=some gd }::rest) a w:=h
end
def waits (o:Oper):List Nat:=((o.after.toList.filter (Region.binds .any)).map (·.on)).eraseDups
def frameOf (ops:Array Oper) (vs:Nat→Value):List Nat→Act→Act
 | [],a=>a
 | j::r,a=>frameOf ops vs r (a.put ((ops[j]?).bind (·.dst)) (vs j))
def valOf (o:Oper) (a:Act):Value:=match o.dst with | some d=>a.tmps.getD d undef | none=>undef
def orderly (ops:Array Oper) (n:Nat):Bool :=
 Region.noSelect ops &&
 (List.range ops.size).all fun i=>match ops[i]? with
  | none=>true
  | some o=>(waits o).all (fun j=>decide (j<i)) &&
   (match o.dst with
    | none=>true
    | some d=>decide (d<n)&&(List.range ops.size).all fun j=>j==i||(match ops[j]? with | some o'=>o'.dst != some d | none=>true)) &&
   (List.range ops.size).all fun j=>match ops[j]? with
    | none=>true
    | some o'=>(match o'.dst with
     | none=>true
     | some d=>!(o.looksAt ops).contains d||(waits o).contains j||j==i||(waits o').contains i)
section
variable {P : Program} {ops : Array Oper} {C : (Nat → Bool) → (Nat → Value) → World → Prop} {F : Nat → Value → World → Prop} {a0 : Act}
def noQ:Exit→Act→World→Prop:=fun _ _ _=>False
def also (L:Nat→Bool) (i:Nat):Nat→Bool:=fun j=>j==i||L j
def came (vs:Nat→Value) (i:Nat) (v:Value):Nat→Value:=fun j=>if j=i then v else vs j
def stepOf (P:Program) (ops:Array Oper) (C:(Nat→Bool)→(Nat→Value)→World→Prop) (F:Nat→Value→World→Prop) (a0:Act) (i:Nat) (o:Oper):Prop :=
 ∀ (L:Nat→Bool) (vs:Nat→Value) (w:World),L i=false→(∀ j∈waits o,L j=true)→(∀ k ok,ops[k]?=some ok→L k=true→∀ j∈waits ok,L j=true)→C L vs w→(∀ j∈waits o,F j (vs j) w) →
  if Region.wanted o (yielded ops (frameOf ops vs (waits o) a0).tmps) then
   o.wp P (frameOf ops vs (waits o) a0) w (fun a' w'=>a'.defers=a0.defers∧C (also L i) (came vs i (valOf o a')) w'∧(∀ j v,F j v w→F j v w')∧F i (valOf o a') w') noQ
  else C (also L i) (came vs i undef) w∧F i undef w
theorem mem_waits {o:Oper} {e:Edge} (he:e∈o.after) (hb:Region.binds .any e=true):e.on∈waits o:=by
 unfold waits
 rw [List.mem_eraseDups]
 exact List.mem_map.2 ⟨e,List.mem_filter.2 ⟨Array.mem_toList_iff.2 he,hb⟩,rfl⟩
theorem of_mem_waits {o:Oper} {j:Nat} (h:j∈waits o):∃ e∈o.after,Region.binds .any e=true∧e.on=j:=by
 unfold waits at h
 rw [List.mem_eraseDups] at h
 obtain ⟨e,he,rfl⟩:=List.mem_map.1 h
 obtain ⟨h1,h2⟩:=List.mem_filter.1 he
 exact ⟨e,Array.mem_toList_iff.1 h1,h2,rfl⟩
theorem put_getD_same {a:Act} {d:Nat} {v:Value} (hd:d<a.tmps.size):(a.put (some d) v).tmps.getD d undef=v:=by
 simp [Act.put,Array.getD_eq_getD_getElem?,hd]
theorem put_getD_ne {a:Act} {x:Option Tmp} {d:Nat} {v:Value} (h:x≠some d):(a.put x v).tmps.getD d undef=a.tmps.getD d undef:=by
 cases x with
 | none=>rfl
 | some e =>
  have:e≠d:=fun h'=>h (by rw [h'])
  simp [Act.put,Array.getD_eq_getD_getElem?,Array.getElem?_setIfInBounds_ne this]
theorem put_size {a:Act} {x:Option Tmp} {v:Value}:(a.put x v).tmps.size=a.tmps.size:=by cases x<;>simp [Act.put]
theorem put_getElem_ne {a:Act} {x:Option Tmp} {d:Nat} {v:Value} (h:x≠some d):(a.put x v).tmps[d]?=a.tmps[d]?:=by
 cases x with
 | none=>rfl
 | some e =>
  have:e≠d:=fun h'=>h (by rw [h'])
  simp [Act.put,Array.getElem?_setIfInBounds_ne this]
theorem put_getElem_same {a:Act} {d:Nat} {v:Value} (hd:d<a.tmps.size):(a.put (some d) v).tmps[d]?=some v:=by
 simp [Act.put,hd]
theorem frameOf_size (vs:Nat→Value):∀ (l:List Nat) (a:Act),(frameOf ops vs l a).tmps.size=a.tmps.size
 | [],_=>rfl
 | j::r,a=>by rw [frameOf,frameOf_size vs r,put_size]
theorem frameOf_defers (vs:Nat→Value):∀ (l:List Nat) (a:Act),(frameOf ops vs l a).defers=a.defers
 | [],_=>rfl
 | j::r,a=>by rw [frameOf,frameOf_defers vs r];cases (ops[j]?).bind (·.dst)<;>rfl
theorem frameOf_other (vs:Nat→Value) (d:Nat):∀ (l:List Nat) (a:Act),(∀ j∈l,(ops[j]?).bind (·.dst)≠some d)→(frameOf ops vs l a).tmps[d]?=a.tmps[d]?
 | [],_,_=>rfl
 | j::r,a,h=>by
  rw [frameOf,frameOf_other vs d r _ (fun k hk=>h k (by simp [hk])),put_getElem_ne (h j (by simp))]
theorem frameOf_at (vs:Nat→Value) (d j:Nat) (hd:(ops[j]?).bind (·.dst)=some d) (hu:∀ k,(ops[k]?).bind (·.dst)=some d→k=j):∀ (l:List Nat) (a:Act),d<a.tmps.size→(a.tmps[d]?=some (vs j)∨j∈l)→(frameOf ops vs l a).tmps[d]?=some (vs j)
 | [],a,hs,h=>by simpa [frameOf] using h
 | k::r,a,hs,h=>by
  rw [frameOf]
  refine frameOf_at vs d j hd hu r _ (by rw [put_size];exact hs) ?_
  by_cases e:(ops[k]?).bind (·.dst)=some d
  ·have:=hu k e
   subst this
   rw [hd]
   exact .inl (put_getElem_same hs)
  ·rcases h with h | h
   ·rw [put_getElem_ne e];exact .inl h
   ·rcases List.mem_cons.1 h with rfl | h
    ·exact absurd hd e
    ·exact .inr h
def valAt (ops:Array Oper) (a:Act) (j:Nat):Value:=match ops[j]? with | some oj=>valOf oj a | none=>undef
structure RInv (ops:Array Oper) (C:(Nat→Bool)→(Nat→Value)→World→Prop) (F:Nat→Value→World→Prop) (a0:Act) (listed:Array Bool) (a:Act) (w:World):Prop where
 c:C (fun j=>listed.getD j false) (valAt ops a) w
 defers:a.defers=a0.defers
 size:a.tmps.size=a0.tmps.size
 lsize:listed.size=ops.size
 closed:∀ i o,ops[i]?=some o→listed.getD i false=true→∀ j∈waits o,listed.getD j false=true
 free:∀ s,(∀ i o,ops[i]?=some o→o.dst=some s→listed.getD i false=false)→a.tmps[s]?=a0.tmps[s]?
 facts:∀ i o,ops[i]?=some o→listed.getD i false=true→F i (valOf o a) w
theorem upon_imp {o:Oper} {a a':Act} {r:Result Next} {K K':Act→World→Prop} {Q':Exit→Act→World→Prop} (h:o.upon P a K noQ r)
 (hk:∀ v w,K (a.put o.dst v) w→K' (a'.put o.dst v) w) (hnod:∀ d w,¬ K ({ a with defers:=d::a.defers }.put o.dst undef) w):o.upon P a' K' Q' r:=by
 cases r with
 | ok n w =>
  cases n<;>simp only [Oper.upon,noQ] at h ⊢<;>first | exact h.elim | skip
  case value v=>exact hk _ _ h
  case skip=>exact hk _ _ h
  case defer d=>exact absurd h (hnod d w)
  case enter f args =>
   refine h.mono<|fun e w' h'=>?_
   cases e with
   | returned v=>exact hk _ _ h'
   | panicked c=>exact h'.elim
   | outgrown=>obtain ⟨_,_,h''⟩:=h';exact h''.elim
  case row s args =>
   exact h.mono<|fun v w' h'=>hk _ _ h'
 | halt x w=>cases x<;>simp only [Oper.upon,noQ] at h
theorem orderly_spec {n:Nat} (h:orderly ops n=true) {i:Nat} {o:Oper} (hi:ops[i]?=some o) :
 (∀ j∈waits o,j<i)∧(∀ (d:Tmp),o.dst=some d→d<n∧∀ (j:Nat) (o':Oper),ops[j]?=some o'→o'.dst=some d→j=i) ∧
 (∀ (j:Nat) (o':Oper) (d:Tmp),ops[j]?=some o'→o'.dst=some d→d∈o.looksAt ops→j∈waits o∨j=i∨i∈waits o'):=by
 simp only [orderly,Bool.and_eq_true] at h
 have h1:=List.all_eq_true.1 h.2 i (List.mem_range.2 (Array.getElem?_eq_some_iff.1 hi).1)
 simp only [hi,Bool.and_eq_true] at h1
 obtain ⟨⟨h1,h2⟩,h3⟩:=h1
 refine ⟨fun j hj=>by simpa using List.all_eq_true.1 h1 j hj,?_,?_⟩
 ·intro d hd
  simp only [hd,Bool.and_eq_true,decide_eq_true_eq] at h2
  refine ⟨h2.1,fun j o' hj hd'=>?_⟩
  have:=List.all_eq_true.1 h2.2 j (List.mem_range.2 (Array.getElem?_eq_some_iff.1 hj).1)
  simp only [hj,hd',Bool.or_eq_true,beq_iff_eq] at this
  simpa using this
 ·intro j o' d hj hd hl
  have:=List.all_eq_true.1 h3 j (List.mem_range.2 (Array.getElem?_eq_some_iff.1 hj).1)
  simp only [hj,hd,Bool.or_eq_true,beq_iff_eq,Bool.not_eq_true'] at this
  rcases this with ((h | h) | h) | h
  ·rw [List.contains_iff_mem.2 hl] at h;simp at h
  ·exact .inl (List.contains_iff_mem.1 h)
  ·exact .inr (.inl h)
  ·exact .inr (.inr (List.contains_iff_mem.1 h))
theorem rinv_step {n:Nat} (ho:orderly ops n=true) (hn:a0.tmps.size=n) (hstep:∀ i o,ops[i]?=some o→stepOf P ops C F a0 i o) {listed:Array Bool} {a:Act} {w:World} (H:RInv ops C F a0 listed a w) {Q:Exit→Act→World→Prop}
 {i:Nat} (hi:i∈Region.ready .any ops listed):wpOp P ops Q i (fun a' w'=>RInv ops C F a0 (listed.setIfInBounds i true) a' w') a w:=by
 obtain ⟨hl,o,hio,hpre⟩:=mem_ready.1 hi
 obtain ⟨hw1,hw2,hw3⟩:=orderly_spec ho hio
 have hil:i<listed.size:=by rw [H.lsize];exact (Array.getElem?_eq_some_iff.1 hio).1
 have hlf:listed.getD i false=false:=by
  simp only [Array.getD_eq_getD_getElem?,Array.getElem?_eq_getElem hil,Option.getD_some] at hl ⊢
  exact hl
 have hwl:∀ j∈waits o,listed.getD j false=true:=by
  intro j hj
  obtain ⟨e,he,hb,rfl⟩:=of_mem_waits hj
  exact hpre e he hb
 let vs:Nat→Value:=valAt ops a
 have hfacts:∀ j∈waits o,F j (vs j) w:=by
  intro j hj
  have hji:=hw1 j hj
  have hjs:j<ops.size:=by have:=(Array.getElem?_eq_some_iff.1 hio).1;omega
  have hjo:ops[j]?=some ops[j]:=Array.getElem?_eq_getElem hjs
  have:=H.facts j _ hjo (hwl j hj)
  simp only [vs,valAt,hjo]
  exact this
 have hS:=hstep i o hio (fun j=>listed.getD j false) vs w hlf hwl (fun k ok hk hkl j hj=>H.closed k ok hk hkl j hj) H.c hfacts
 -- the slots that are looked at
 have hsame:∀ t∈o.looksAt ops,a.tmps[t]?=(frameOf ops vs (waits o) a0).tmps[t]?:=by
  intro t ht
  by_cases hex:∃ (j:Nat) (o':Oper),ops[j]?=some o'∧o'.dst=some t
  ·obtain ⟨j,o',hj,hd⟩:=hex
   have huniq:∀ k,(ops[k]?).bind (·.dst)=some t→k=j:=by
    intro k hk
    obtain ⟨ok,hk1,hk2⟩:=Option.bind_eq_some_iff.1 hk
    exact ((orderly_spec ho hj).2.1 t hd).2 k ok hk1 hk2
   have hnot:j∉waits o→(frameOf ops vs (waits o) a0).tmps[t]?=a0.tmps[t]?:=by
    intro hjw
    refine frameOf_other vs t (waits o) a0 (fun k hk hkd=>?_)
    exact hjw (huniq k hkd ▸ hk)
   have hfree:listed.getD j false=false→a.tmps[t]?=a0.tmps[t]?:=by
    intro hjl
    refine H.free t (fun k ok hk hkd=>?_)
    have:k=j:=huniq k (by rw [hk];exact hkd)
    rw [this];exact hjl
   rcases hw3 j o' t hj hd ht with h | h | h
   ·have htn:=((orderly_spec ho hj).2.1 t hd).1
    have hta:t<a.tmps.size:=by rw [H.size,hn];exact htn
    rw [frameOf_at vs t j (by rw [hj];exact hd) huniq (waits o) a0 (by rw [hn];exact htn) (.inr h)]
    simp only [vs,valAt,hj,valOf,hd]
    rw [Array.getElem?_eq_getElem hta,Array.getD_eq_getD_getElem?,Array.getElem?_eq_getElem hta]
    rfl
   ·subst h
    have hnw:j∉waits o:=fun h=>by have:=hw1 j h;omega
    rw [hnot hnw,hfree hlf]
   ·have hnl:listed.getD j false=false:=by
     cases hc:listed.getD j false with
     | false=>rfl
     | true=>have:=H.closed j o' hj hc i h;rw [hlf] at this;cases this
    have hnw:j∉waits o:=fun h'=>by have h1:=hw1 j h';have h2:=(orderly_spec ho hj).1 i h;omega
    rw [hnot hnw,hfree hnl]
  ·have h1:(frameOf ops vs (waits o) a0).tmps[t]?=a0.tmps[t]?:=by
    refine frameOf_other vs t (waits o) a0 (fun k _ hkd=>?_)
    obtain ⟨ok,hk1,hk2⟩:=Option.bind_eq_some_iff.1 hkd
    exact hex ⟨k,ok,hk1,hk2⟩
   rw [h1]
   exact H.free t (fun k ok hk hkd=>absurd ⟨k,ok,hk,hkd⟩ hex)
 have hsel:∀ cs b,o.op≠.select cs b:=by
  intro cs b
  simp only [orderly,Bool.and_eq_true] at ho
  exact Region.noSelect_spec ho.1 i o cs b hio
 have hexec:execOp a.eval o=execOp (frameOf ops vs (waits o) a0).eval o:=by
  refine execOp_congr o hsel (fun x hx=>?_)
  cases x with
  | tmp t =>
   have:=hsame t (by unfold Oper.looksAt;exact List.mem_append.2 (.inl (List.mem_filterMap.2 ⟨_,Array.mem_toList_iff.2 hx,rfl⟩)))
   simp only [Act.eval,Array.getD_eq_getD_getElem?,this]
  | const v=>rfl
  | global g=>rfl
  | func f=>rfl
 have hwant:Region.wanted o (yielded ops a.tmps)=Region.wanted o (yielded ops (frameOf ops vs (waits o) a0).tmps):=by
  unfold Region.wanted
  cases hg:o.guard with
  | none=>rfl
  | some p =>
   obtain ⟨j,b⟩:=p
   simp only
   congr 1
   unfold yielded
   cases hd:(ops[j]?).bind (·.dst) with
   | none=>rfl
   | some d =>
    have:=hsame d (by unfold Oper.looksAt;rw [hg];simp only [hd];exact List.mem_append.2 (.inr (by simp)))
    simp only [Option.bind_some,this]
 -- what the new state is
 have hnew:∀ v w',C (also (fun j=>listed.getD j false) i) (came vs i (match o.dst with | some _=>v | none=>undef)) w'→(∀ j v,F j v w→F j v w')→F i (match o.dst with | some _=>v | none=>undef) w'→RInv ops C F a0 (listed.setIfInBounds i true) (a.put o.dst v) w':=by
  intro v w' hC hR hF
  have hset:∀ j,(listed.setIfInBounds i true).getD j false=true→j≠i→listed.getD j false=true:=by
   intro j hj hne
   rwa [getD_set_ne false (Ne.symm hne)] at hj
  have hL:(fun j=>(listed.setIfInBounds i true).getD j false)=also (fun j=>listed.getD j false) i:=by
   funext j
   unfold also
   by_cases hji:j=i
   ·subst hji;simp [Array.getD_eq_getD_getElem?,hil]
   ·rw [getD_set_ne false (Ne.symm hji)];simp [hji]
  have hV:valAt ops (a.put o.dst v)=came vs i (match o.dst with | some _=>v | none=>undef):=by
   funext j
   unfold came
   by_cases hji:j=i
   ·subst hji
    simp only [valAt,hio,valOf,if_true]
    cases hd:o.dst with
    | none=>rfl
    | some d=>exact put_getD_same (by rw [H.size,hn];exact (hw2 d hd).1)
   ·simp only [hji,if_false,vs,valAt]
    cases hj:ops[j]? with
    | none=>rfl
    | some oj =>
     simp only [valOf]
     cases hd:oj.dst with
     | none=>rfl
     | some d=>exact put_getD_ne (fun he=>hji ((hw2 d he).2 j oj hj hd))
  refine ⟨by rw [hL,hV];exact hC,?_,by rw [put_size];exact H.size,by simpa using H.lsize,?_,?_,?_⟩
  ·rw [← H.defers];cases o.dst<;>rfl
  ·intro j oj hj hjl k hk
   refine getD_set_true ?_
   by_cases hji:j=i
   ·subst hji;rw [hio] at hj;cases hj;exact hwl k hk
   ·exact H.closed j oj hj (hset j hjl hji) k hk
  ·intro s hs
   have hne:o.dst≠some s:=by
    intro he
    have:=hs i o hio he
    simp [Array.getD_eq_getD_getElem?,hil] at this
   rw [put_getElem_ne hne]
   refine H.free s (fun k ok hk hkd=>?_)
   have h1:=hs k ok hk hkd
   by_cases hki:k=i
   ·subst hki;exact hlf
   ·rwa [getD_set_ne false (Ne.symm hki)] at h1
  ·intro j oj hj hjl
   by_cases hji:j=i
   ·subst hji
    rw [hio] at hj
    cases hj
    cases hd:o.dst with
    | none=>simpa [valOf,hd] using hF
    | some d =>
     have hdn:=(hw2 d hd).1
     simp only [hd] at hF
     simp only [valOf,hd]
     rw [put_getD_same (by rw [H.size,hn];exact hdn)]
     exact hF
   ·have h1:=H.facts j oj hj (hset j hjl hji)
    have h2:=hR j _ h1
    have e:valOf oj (a.put o.dst v)=valOf oj a:=by
     unfold valOf
     cases hd:oj.dst with
     | none=>rfl
     | some d =>
      simp only
      refine put_getD_ne (fun he=>?_)
      exact hji ((hw2 d he).2 j oj hj hd)
    rw [e]
    exact h2
 unfold wpOp
 simp only [hio]
 rw [hwant]
 by_cases hwt:Region.wanted o (yielded ops (frameOf ops vs (waits o) a0).tmps)=true
 ·rw [if_pos hwt] at hS ⊢
  refine .inl ?_
  unfold Oper.wp at hS ⊢
  rw [hexec]
  refine upon_imp hS ?_ ?_
  ·rintro v w' ⟨_,hC,hR,hF⟩
   have hval:valOf o ((frameOf ops vs (waits o) a0).put o.dst v)=(match o.dst with | some _=>v | none=>undef):=by
    unfold valOf
    cases hd:o.dst with
    | none=>rfl
    | some d=>exact put_getD_same (by rw [frameOf_size,hn];exact (hw2 d hd).1)
   rw [hval] at hC hF
   exact hnew v w' hC hR hF
  ·rintro d w' ⟨hd,_⟩
   have hd':d::(frameOf ops vs (waits o) a0).defers=a0.defers:=by
    cases hod:o.dst<;>simpa [Act.put,hod] using hd
   rw [frameOf_defers] at hd'
   have:=congrArg List.length hd'
   simp at this
 ·rw [if_neg hwt] at hS ⊢
  have hval:(match o.dst with | some _=>undef | none=>undef)=undef:=by cases o.dst<;>rfl
  refine hnew undef w ?_ (fun _ _ h=>h) ?_
  ·rw [hval];exact hS.1
  ·rw [hval];exact hS.2
theorem rinv_any {n:Nat} (ho:orderly ops n=true) (hn:a0.tmps.size=n) (hstep:∀ i o,ops[i]?=some o→stepOf P ops C F a0 i o) {Q:Exit→Act→World→Prop}
 (hfin:∀ listed a w,RInv ops C F a0 listed a w→Region.ready .any ops listed=[]→Q .normal a w):∀ (fuel:Nat) (listed:Array Bool) (a:Act) (w:World),
 RInv ops C F a0 listed a w→(List.range ops.size).countP (fun j=>!listed.getD j false)≤fuel→wpAny P .any ops Q fuel listed a w
 | 0,listed,a,w,H,hf=>by
  have hr:Region.ready .any ops listed=[]:=by
   rw [List.eq_nil_iff_forall_not_mem]
   intro i hi
   obtain ⟨hl,o,hio,_⟩:=mem_ready.1 hi
   have hil:i<ops.size:=(Array.getElem?_eq_some_iff.1 hio).1
   have h0:=List.countP_eq_zero.1 (Nat.le_zero.1 hf) i (List.mem_range.2 hil)
   have hil':i<listed.size:=by rw [H.lsize];exact hil
   simp only [Array.getD_eq_getD_getElem?,Array.getElem?_eq_getElem hil',Option.getD_some] at hl h0
   simp [hl] at h0
  exact ⟨hr,hfin _ _ _ H hr⟩
 | fuel+1,listed,a,w,H,hf=>by
  refine ⟨hfin _ _ _ H,fun i hi=>?_⟩
  refine wpOp_mono (fun a' w' H'=>rinv_any ho hn hstep hfin fuel _ a' w' H' ?_) (rinv_step ho hn hstep H hi)
  obtain ⟨hl,o,hio,_⟩:=mem_ready.1 hi
  have hil:i<ops.size:=(Array.getElem?_eq_some_iff.1 hio).1
  have hil':i<listed.size:=by rw [H.lsize];exact hil
  have hlf:listed.getD i false=false:=by
   simp only [Array.getD_eq_getD_getElem?,Array.getElem?_eq_getElem hil',Option.getD_some] at hl ⊢
   exact hl
  have key:∀ (l:List Nat),l.Nodup→i∈l→l.countP (fun j=>!(listed.setIfInBounds i true).getD j false)+1≤l.countP (fun j=>!listed.getD j false):=by
   intro l
   induction l with
   | nil=>intro _ h;cases h
   | cons x l ih =>
    intro hnd hm
    rw [List.countP_cons,List.countP_cons]
    have hle:∀ (l:List Nat),l.countP (fun j=>!(listed.setIfInBounds i true).getD j false)≤l.countP (fun j=>!listed.getD j false):=by
     intro l
     refine List.countP_mono_left (fun j _ hj=>?_)
     cases hc:listed.getD j false with
     | false=>rfl
     | true=>rw [getD_set_true hc] at hj;cases hj
    by_cases hx:x=i
    ·subst hx
     have h1:(listed.setIfInBounds x true).getD x false=true:=by simp [Array.getD_eq_getD_getElem?,hil']
     have:=hle l
     rw [h1,hlf]
     simpa using this
    ·have hm':i∈l:=by rcases List.mem_cons.1 hm with h | h;exact absurd h.symm hx;exact h
     have h1:=ih (List.nodup_cons.1 hnd).2 hm'
     rw [getD_set_ne false (fun h=>hx h.symm)]
     omega
  have:=key (List.range ops.size) List.nodup_range (List.mem_range.2 hil)
  omega
theorem wp_region_facts {id n:Nat} {Q:Exit→Act→World→Prop} {w:World} (hm:P.follows .mixedOrders=true) (ho:orderly ops n=true) (hn:a0.tmps.size=n) (hC:∀ vs,C (fun _=>false) vs w.drew)
 (hstep:∀ i o,ops[i]?=some o→stepOf P ops C F a0 i o)
 (hfin:∀ (L:Nat→Bool) (vs:Nat→Value) (w':World),(∀ i,i<ops.size→L i=true)→C L vs w'→(∀ i,i<ops.size→F i (vs i) w')→Q .normal (frameOf ops vs (List.range ops.size) a0) w'):(Code.region id ops true).wp P Q a0 w:=by
 have hfalse:(fun j=>(Array.replicate ops.size false).getD j false)=fun _=>false:=by
  funext j
  simp only [Array.getD_eq_getD_getElem?,Array.getElem?_replicate]
  split<;>rfl
 refine wp_region_any hm (rinv_any (C:=C) (F:=F) ho hn hstep ?_ ops.size _ a0 _ ⟨by rw [hfalse];exact hC _,rfl,rfl,by simp,?_,fun _ _=>rfl,?_⟩ ?_)
 ·intro listed a w' H hr
  -- all are listed
  have hall:∀ k,k≤ops.size→∀ i,i<k→listed.getD i false=true:=by
   intro k
   induction k with
   | zero=>intro _ i hi;omega
   | succ k ih =>
    intro hk i hi
    by_cases hik:i=k
    ·subst hik
     cases hc:listed.getD i false with
     | true=>rfl
     | false =>
      exfalso
      have hio:ops[i]?=some ops[i]:=Array.getElem?_eq_getElem (by omega)
      have hil:i<listed.size:=by rw [H.lsize];omega
      have:i∈Region.ready .any ops listed:=by
       refine mem_ready.2 ⟨?_,_,hio,?_⟩
       ·simp only [Array.getD_eq_getD_getElem?,Array.getElem?_eq_getElem hil,Option.getD_some] at hc ⊢
        exact hc
       ·intro e he hb
        have hlt:=(orderly_spec ho hio).1 e.on (mem_waits he hb)
        exact ih (by omega) e.on hlt
      rw [hr] at this
      cases this
    ·exact ih (by omega) i (by omega)
  let vs:Nat→Value:=valAt ops a
  have hfr:a=frameOf ops vs (List.range ops.size) a0:=by
   obtain ⟨tm,df⟩:=a
   have hd:(frameOf ops vs (List.range ops.size) a0).defers=df:=by rw [frameOf_defers];exact H.defers.symm
   have ht:(frameOf ops vs (List.range ops.size) a0).tmps=tm:=by
    apply Array.ext_getElem?
    intro s
    by_cases hex:∃ (j:Nat) (o':Oper),ops[j]?=some o'∧o'.dst=some s
    ·obtain ⟨j,o',hj,hds⟩:=hex
     have huniq:∀ k,(ops[k]?).bind (·.dst)=some s→k=j:=by
      intro k hk
      obtain ⟨ok,hk1,hk2⟩:=Option.bind_eq_some_iff.1 hk
      exact ((orderly_spec ho hj).2.1 s hds).2 k ok hk1 hk2
     have hsn:=((orderly_spec ho hj).2.1 s hds).1
     have hsa:s<tm.size:=by have h1:tm.size=a0.tmps.size:=H.size;rw [h1,hn];exact hsn
     rw [frameOf_at vs s j (by rw [hj];exact hds) huniq _ a0 (by rw [hn];exact hsn) (.inr (List.mem_range.2 (Array.getElem?_eq_some_iff.1 hj).1))]
     simp only [vs,valAt,hj,valOf,hds]
     rw [Array.getElem?_eq_getElem hsa,Array.getD_eq_getD_getElem?,Array.getElem?_eq_getElem hsa]
     rfl
    ·rw [frameOf_other vs s]
     ·exact (H.free s (fun k ok hk hkd=>absurd ⟨k,ok,hk,hkd⟩ hex)).symm
     ·intro k _ hkd
      obtain ⟨ok,hk1,hk2⟩:=Option.bind_eq_some_iff.1 hkd
      exact hex ⟨k,ok,hk1,hk2⟩
   cases hfa:frameOf ops vs (List.range ops.size) a0 with
   | mk t d=>rw [hfa] at hd ht;simp only at hd ht;rw [hd,ht]
  rw [hfr]
  refine hfin _ vs w' (fun i hi=>hall ops.size (Nat.le_refl _) i hi) H.c (fun i hi=>?_)
  have hio:ops[i]?=some ops[i]:=Array.getElem?_eq_getElem hi
  have:=H.facts i _ hio (hall ops.size (Nat.le_refl _) i hi)
  simp only [vs,valAt,hio]
  exact this
 ·intro i o hi hl
  have hlt:=(Array.getElem?_eq_some_iff.1 hi).1
  simp [Array.getD_eq_getD_getElem?,hlt] at hl
 ·intro i o hi hl
  have hlt:=(Array.getElem?_eq_some_iff.1 hi).1
  simp [Array.getD_eq_getD_getElem?,hlt] at hl
 ·exact Nat.le_trans List.countP_le_length (by simp)
def stepsFrom (P:Program) (ops:Array Oper) (C:(Nat→Bool)→(Nat→Value)→World→Prop) (F:Nat→Value→World→Prop) (a0:Act):Nat→List Oper→Prop
 | _,[]=>True
 | i,o::r=>stepOf P ops C F a0 i o∧stepsFrom P ops C F a0 (i+1) r
theorem steps_spec:∀ (l:List Oper) (k:Nat),stepsFrom P ops C F a0 k l→∀ i o,l[i]?=some o→stepOf P ops C F a0 (k+i) o
 | [],_,_,i,o,h=>by simp at h
 | x::l,k,h,0,o,hi=>by simp at hi;subst hi;exact h.1
 | x::l,k,h,i+1,o,hi=>by
  have:=steps_spec l (k+1) h.2 i o (by simpa using hi)
  rwa [show k+1+i=k+(i+1) by omega] at this
theorem wp_region_lit2 {id n:Nat} {Q:Exit→Act→World→Prop} {w:World} {l:List Oper} (C:(Nat→Bool)→(Nat→Value)→World→Prop) (F:Nat→Value→World→Prop) (hm:P.follows .mixedOrders=true) (ho:orderly l.toArray n=true) (hn:a0.tmps.size=n) (hC:∀ vs,C (fun _=>false) vs w.drew)
 (hstep:stepsFrom P l.toArray C F a0 0 l)
 (hfin:∀ (L:Nat→Bool) (vs:Nat→Value) (w':World),(∀ i,i<l.length→L i=true)→C L vs w'→(∀ i,i<l.length→F i (vs i) w')→Q .normal (frameOf l.toArray vs (List.range l.length) a0) w'):(Code.region id l.toArray true).wp P Q a0 w :=
 wp_region_facts (C:=C) (F:=F) hm ho hn hC (fun i o hi=>by
  have:=steps_spec l 0 hstep i o (by simpa using hi)
  rwa [Nat.zero_add] at this) (fun L vs w' h0 h1 h2=>by simpa using hfin L vs w' (by simpa using h0) h1 (by simpa using h2))
def stepG (P:Program) (ops:Array Oper) (C:World→Prop) (F:Nat→Value→World→Prop) (a0:Act) (i:Nat) (o:Oper):Prop :=
 ∀ (vs:Nat→Value) (w:World),C w→(∀ j∈waits o,F j (vs j) w) →
  if Region.wanted o (yielded ops (frameOf ops vs (waits o) a0).tmps) then o.wp P (frameOf ops vs (waits o) a0) w (fun a' w'=>a'.defers=a0.defers∧C w'∧Kept [] w w'∧F i (valOf o a') w') noQ
  else F i undef w
def stepsG (P:Program) (ops:Array Oper) (C:World→Prop) (F:Nat→Value→World→Prop) (a0:Act):Nat→List Oper→Prop
 | _,[]=>True
 | i,o::r=>Go.PBYtfpdnpppcoomnaaGreat.stepG P ops C F a0 i o∧stepsG P ops C F a0 (i+1) r
theorem stepsG_imp {C:World→Prop} (hst:∀ w w',Kept [] w w'→∀ j v,F j v w→F j v w'):∀ (l:List Oper) (k:Nat),stepsG P ops C F a0 k l→stepsFrom P ops (fun _ _ w=>C w) F a0 k l
 | [],_,_=>trivial
 | o::r,k,h=>by
  refine ⟨fun L vs w _ _ _ hC hF=>?_,stepsG_imp hst r (k+1) h.2⟩
  have:=h.1 vs w hC hF
  split
  ·rename_i hw
   rw [if_pos hw] at this
   unfold Oper.wp at this ⊢
   refine upon_imp this ?_ ?_
   ·rintro v w' ⟨h1,h2,h3,h4⟩;exact ⟨h1,h2,hst _ _ h3,h4⟩
   ·rintro d w' ⟨h1,_⟩
    have hd':d::(frameOf ops vs (waits o) a0).defers=a0.defers:=by
     cases hod:o.dst<;>simpa [Act.put,hod] using h1
    rw [frameOf_defers] at hd'
    have:=congrArg List.length hd'
    simp at this
  ·rename_i hw
   rw [if_neg hw] at this
   exact ⟨hC,this⟩
theorem wp_region_lit {id n:Nat} {Q:Exit→Act→World→Prop} {w:World} {l:List Oper} (C:World→Prop) (F:Nat→Value→World→Prop) (hm:P.follows .mixedOrders=true) (ho:orderly l.toArray n=true) (hn:a0.tmps.size=n) (hC:C w.drew)
 (hst:∀ w w',Kept [] w w'→∀ j v,F j v w→F j v w') (hstep:stepsG P l.toArray C F a0 0 l)
 (hfin:∀ (vs:Nat→Value) (w':World),C w'→(∀ i,i<l.length→F i (vs i) w')→Q .normal (frameOf l.toArray vs (List.range l.length) a0) w'):(Code.region id l.toArray true).wp P Q a0 w :=
 wp_region_lit2 (fun _ _ w=>C w) F hm ho hn (fun _=>hC) (stepsG_imp hst l 0 hstep) (fun _ vs w' _ h1 h2=>hfin vs w' h1 h2)
def putsOf (vs:Nat→Value):List (Nat × Nat)→Act→Act
 | [],a=>a
 | p::r,a=>putsOf vs r (a.put (some p.1) (vs p.2))
def tabled (ops:Array Oper) (l:List Oper) (Ws:List (List (Nat × Nat))):Bool :=
 l.map (fun o=>(waits o).filter fun j=>((ops[j]?).bind (·.dst)).isSome)==Ws.map (fun W=>W.map (·.2)) &&
 Ws.all fun W=>W.all fun p=>(ops[p.2]?).bind (·.dst)==some p.1
theorem frameOf_puts (vs:Nat→Value):∀ (l:List Nat) (W:List (Nat × Nat)) (a:Act),(l.filter fun j=>((ops[j]?).bind (·.dst)).isSome)=W.map (·.2)→(∀ p∈W,(ops[p.2]?).bind (·.dst)=some p.1)→frameOf ops vs l a=putsOf vs W a
 | [],[],_,_,_=>rfl
 | [],p::W,_,h,_=>by simp at h
 | j::l,W,a,h,hW=>by
  cases hd:(ops[j]?).bind (·.dst) with
  | none =>
   rw [List.filter_cons,hd] at h
   have e:frameOf ops vs (j::l) a=frameOf ops vs l a:=by rw [frameOf,hd];rfl
   rw [e]
   exact frameOf_puts vs l W a (by simpa using h) hW
  | some d =>
   rw [List.filter_cons,hd] at h
   simp only [Option.isSome_some,if_true] at h
   cases W with
   | nil=>simp at h
   | cons p W =>
    simp only [List.map_cons,List.cons.injEq] at h
    have h1:=hW p (by simp)
    rw [← h.1,hd,Option.some.injEq] at h1
    rw [frameOf,putsOf,hd,h1,h.1]
    exact frameOf_puts vs l W _ h.2 (fun q hq=>hW q (by simp [hq]))
def stepsA (P:Program) (C:World→Prop) (F:Nat→Value→World→Prop) (a0:Act):Nat→List Oper→List (List (Nat × Nat))→Prop
 | i,o::r,W::Ws=>(∀ (vs:Nat→Value) (w:World),C w→(∀ p∈W,F p.2 (vs p.2) w) →
  ((match o.guard with | none=>True | some (j,b)=>vs j=.bool b∧(W.any (·.2==j))=true)∧o.wp P (putsOf vs W a0) w (fun a' w'=>∃ v,a'=(putsOf vs W a0).put o.dst v∧(o.dst=none→v=undef)∧C w'∧Kept [] w w'∧F i v w') noQ) ∨
  ((match o.guard with | none=>False | some (j,b)=>vs j≠.bool b∧(W.any (·.2==j))=true)∧F i undef w))∧stepsA P C F a0 (i+1) r Ws
 | _,_,_=>True
theorem putsOf_size (vs:Nat→Value):∀ (W:List (Nat × Nat)) (a:Act),(putsOf vs W a).tmps.size=a.tmps.size
 | [],_=>rfl
 | p::W,a=>by rw [putsOf,putsOf_size vs W,put_size]
theorem put_defers' {a:Act} {x:Option Tmp} {v:Value}:(a.put x v).defers=a.defers:=by cases x<;>rfl
theorem putsOf_defers (vs:Nat→Value):∀ (W:List (Nat × Nat)) (a:Act),(putsOf vs W a).defers=a.defers
 | [],_=>rfl
 | p::W,a=>by rw [putsOf,putsOf_defers vs W,put_defers']
theorem put_value {o:Oper} {n:Nat} {a:Act} {v u:Value} (hd:∀ d,o.dst=some d→d<n) (hn:a.tmps.size=n) (h:a.put o.dst v=a.put o.dst u) (h0:o.dst=none→u=undef):valOf o (a.put o.dst v)=u:=by
 unfold valOf
 cases hdo:o.dst with
 | none=>exact (h0 hdo).symm
 | some d =>
  simp only
  rw [hdo] at h
  rw [h]
  exact put_getD_same (by rw [hn];exact hd d hdo)
theorem eraseDups_nodup:∀ (l:List Nat),l.Nodup→l.eraseDups=l
 | [],_=>by simp
 | a::l,h=>by
  rw [List.eraseDups_cons]
  have h1:=List.nodup_cons.1 h
  have:l.filter (fun b=>!b==a)=l:=by
   rw [List.filter_eq_self]
   intro b hb
   have:b≠a:=fun e=>h1.1 (e ▸ hb)
   simpa using this
  rw [this,eraseDups_nodup l h1.2]
theorem wp_region_all {id n:Nat} {Q:Exit→Act→World→Prop} {w:World} {l:List Oper} (C:World→Prop) (F:Nat→Value→World→Prop) (Ws:List (List (Nat × Nat))) (D:List (Nat × Nat)) (hm:P.follows .mixedOrders=true)
 (ho:(orderly l.toArray n&&tabled l.toArray l Ws&&(l.length==Ws.length)&&tabled l.toArray [{ (default:Oper) with after:=((List.range l.length).map fun i=>(⟨i,.data⟩:Edge)).toArray }] [D])=true) (hn:a0.tmps.size=n) (hC:C w.drew)
 (hst:∀ w w',Kept [] w w'→∀ j v,F j v w→F j v w') (hstep:stepsA P C F a0 0 l Ws)
 (hfin:∀ (vs:Nat→Value) (w':World),C w'→(∀ i,i<l.length→F i (vs i) w')→Q .normal (putsOf vs D a0) w'):(Code.region id l.toArray true).wp P Q a0 w:=by
 simp only [Bool.and_eq_true,beq_iff_eq] at ho
 obtain ⟨⟨⟨ho1,ho2⟩,ho3⟩,ho4⟩:=ho
 refine wp_region_lit (n:=n) C F hm ho1 hn hC hst ?_ ?_
 ·-- the steps
  have key:∀ (m:List Oper) (Vs:List (List (Nat × Nat))) (k:Nat),tabled l.toArray m Vs=true→m.length=Vs.length→stepsA P C F a0 k m Vs→(∀ (i:Nat) (o:Oper),m[i]?=some o→l[k+i]?=some o)→stepsG P l.toArray C F a0 k m:=by
   intro m
   induction m with
   | nil=>intro _ _ _ _ _ _;trivial
   | cons o m ih =>
    intro Vs k ht hl hs hat
    cases Vs with
    | nil=>simp at hl
    | cons W Vs =>
     simp only [tabled,List.map_cons,Bool.and_eq_true,beq_iff_eq,List.cons.injEq,List.all_cons] at ht
     obtain ⟨⟨ht1,ht2⟩,ht3,ht4⟩:=ht
     refine ⟨fun vs w hC hF=>?_,ih Vs (k+1) (by simp only [tabled,Bool.and_eq_true,beq_iff_eq];exact ⟨ht2,ht4⟩) (by simpa using hl) hs.2 (fun i o hi=>by rw [show k+1+i=k+(i+1) by omega];exact hat (i+1) o (by simpa using hi))⟩
     have hat0:l.toArray[k]?=some o:=by simpa using hat 0 o rfl
     have hW:∀ p∈W,(l.toArray[p.2]?).bind (·.dst)=some p.1:=fun p hp=>by simpa using List.all_eq_true.1 ht3 p hp
     rw [frameOf_puts vs (waits o) W a0 ht1 hW]
     have hFW:∀ p∈W,F p.2 (vs p.2) w:=by
      intro p hp
      have:p.2∈(waits o).filter fun j=>((l.toArray[j]?).bind (·.dst)).isSome:=by rw [ht1];exact List.mem_map.2 ⟨p,hp,rfl⟩
      exact hF p.2 (List.mem_filter.1 this).1
     have hslot:∀ q∈W,(putsOf vs W a0).tmps[q.1]?=some (vs q.2):=by
      intro q hq
      have hd:=hW q hq
      have hjs:∃ oj,l.toArray[q.2]?=some oj∧oj.dst=some q.1:=by
       obtain ⟨oj,h1,h2⟩:=Option.bind_eq_some_iff.1 hd
       exact ⟨oj,h1,h2⟩
      obtain ⟨oj,hoj,hdj⟩:=hjs
      have hqn:=((orderly_spec ho1 hoj).2.1 q.1 hdj).1
      have huniq:∀ k,(l.toArray[k]?).bind (·.dst)=some q.1→k=q.2:=by
       intro k hk
       obtain ⟨ok,hk1,hk2⟩:=Option.bind_eq_some_iff.1 hk
       exact ((orderly_spec ho1 hoj).2.1 q.1 hdj).2 k ok hk1 hk2
      have hmem:q.2∈waits o:=by
       have:q.2∈(waits o).filter fun j=>((l.toArray[j]?).bind (·.dst)).isSome:=by rw [ht1];exact List.mem_map.2 ⟨q,hq,rfl⟩
       exact (List.mem_filter.1 this).1
      have:=frameOf_at vs q.1 q.2 hd huniq (waits o) a0 (by rw [hn];exact hqn) (.inr hmem)
      rwa [frameOf_puts vs (waits o) W a0 ht1 hW] at this
     rcases hs.1 vs w hC hFW with ⟨hg,hwp⟩ | ⟨hg,hu⟩
     case inr =>
      have hwant:Region.wanted o (yielded l.toArray (putsOf vs W a0).tmps)=false:=by
       unfold Region.wanted
       cases hgd:o.guard with
       | none=>rw [hgd] at hg;exact hg.elim
       | some p =>
        obtain ⟨j,b⟩:=p
        rw [hgd] at hg
        simp only at hg
        obtain ⟨hv,hany⟩:=hg
        obtain ⟨q,hq,hqj⟩:=List.any_eq_true.1 hany
        obtain rfl:q.2=j:=by simpa using hqj
        have h1:=hslot q hq
        simp only [yielded,hW q hq,Option.bind_some,h1]
        cases hx:vs q.2 with
        | bool b' =>
         have:b'≠b:=by intro e;subst e;exact hv hx
         simp [this]
        | _=>simp
      rw [if_neg (by rw [hwant];decide)]
      exact hu
     case inl =>
      have hwant:Region.wanted o (yielded l.toArray (putsOf vs W a0).tmps)=true:=by
       unfold Region.wanted
       cases hgd:o.guard with
       | none=>rfl
       | some p =>
        obtain ⟨j,b⟩:=p
        rw [hgd] at hg
        simp only at hg
        obtain ⟨hv,hany⟩:=hg
        obtain ⟨q,hq,hqj⟩:=List.any_eq_true.1 hany
        obtain rfl:q.2=j:=by simpa using hqj
        have hd:=hW q hq
        have hjs:∃ oj,l.toArray[q.2]?=some oj∧oj.dst=some q.1:=by
         obtain ⟨oj,h1,h2⟩:=Option.bind_eq_some_iff.1 hd
         exact ⟨oj,h1,h2⟩
        obtain ⟨oj,hoj,hdj⟩:=hjs
        have hqn:=((orderly_spec ho1 hoj).2.1 q.1 hdj).1
        have huniq:∀ k,(l.toArray[k]?).bind (·.dst)=some q.1→k=q.2:=by
         intro k hk
         obtain ⟨ok,hk1,hk2⟩:=Option.bind_eq_some_iff.1 hk
         exact ((orderly_spec ho1 hoj).2.1 q.1 hdj).2 k ok hk1 hk2
        have hmem:q.2∈waits o:=by
         have:q.2∈(waits o).filter fun j=>((l.toArray[j]?).bind (·.dst)).isSome:=by rw [ht1];exact List.mem_map.2 ⟨q,hq,rfl⟩
         exact (List.mem_filter.1 this).1
        have:=frameOf_at vs q.1 q.2 hd huniq (waits o) a0 (by rw [hn];exact hqn) (.inr hmem)
        rw [frameOf_puts vs (waits o) W a0 ht1 hW,hv] at this
        simp only [yielded,hd,Option.bind_some,this]
        simp
      rw [if_pos hwant]
      unfold Oper.wp at hwp ⊢
      refine upon_imp hwp ?_ ?_
      ·rintro v w' ⟨u,h1,h2,h3,h4,h5⟩
       have hu:=put_value (o:=o) (n:=n) (fun d hd=>((orderly_spec ho1 hat0).2.1 d hd).1) (by rw [putsOf_size];exact hn) h1 h2
       rw [hu]
       exact ⟨by rw [h1,put_defers',putsOf_defers],h3,h4,h5⟩
      ·rintro d w' ⟨u,h1,_⟩
       have:=congrArg Act.defers h1
       rw [put_defers',put_defers'] at this
       have:=congrArg List.length this
       simp at this
  exact key l Ws 0 ho2 ho3 hstep (fun i o hi=>by rw [Nat.zero_add];exact hi)
 ·intro vs w' h1 h2
  have hr:waits { (default:Oper) with after:=((List.range l.length).map fun i=>(⟨i,.data⟩:Edge)).toArray }=List.range l.length:=by
   unfold waits
   have:(((List.range l.length).map fun i=>(⟨i,.data⟩:Edge)).toArray.toList.filter (Region.binds .any))=(List.range l.length).map fun i=>(⟨i,.data⟩:Edge):=by
    rw [List.filter_eq_self]
    intro e he
    obtain ⟨i,_,rfl⟩:=List.mem_map.1 (show e∈(List.range l.length).map fun i=>(⟨i,.data⟩:Edge) from he)
    rfl
   rw [this,List.map_map]
   have e:((fun x:Edge=>x.on) ∘ fun i=>(⟨i,.data⟩:Edge))=_root_.id:=by funext i;rfl
   rw [e,List.map_id]
   exact eraseDups_nodup _ List.nodup_range
  simp only [tabled,List.map_cons,List.map_nil,Bool.and_eq_true,beq_iff_eq,List.cons.injEq,List.all_cons,List.all_nil,and_true] at ho4
  rw [hr] at ho4
  rw [frameOf_puts vs (List.range l.length) D a0 ho4.1 (fun p hp=>by simpa using List.all_eq_true.1 ho4.2 p hp)]
  exact hfin vs w' h1 h2
def stage (Ls:List Nat) (L:Nat→Bool):Nat:=(Ls.filter L).length
def lastOf (Ls:List Nat) (vs:Nat→Value):Nat→Value
 | 0=>undef
 | s+1=>match Ls[s]? with | some j=>vs j | none=>undef
def chained (ops:Array Oper):List Nat→Bool
 | a::b::r=>(match ops[b]? with | some o=>(waits o).contains a | none=>false)&&chained ops (b::r)
 | _=>true
def stepsC (P:Program) (Ls:List Nat) (C:Nat→Value→World→Prop) (F:Nat→Value→World→Prop) (a0:Act):Nat→List Oper→List (List (Nat × Nat))→Prop
 | i,o::r,W::Ws=>(∀ (s:Nat) (v:Value) (vs:Nat→Value) (w:World),(i∈Ls→Ls[s]?=some i)→v=lastOf Ls vs s→C s v w→(∀ p∈W,F p.2 (vs p.2) w) →
  (match o.guard with | none=>True | some (j,b)=>vs j=.bool b∧(W.any (·.2==j))=true)∧o.wp P (putsOf vs W a0) w (fun a' w'=>∃ u,a'=(putsOf vs W a0).put o.dst u∧(o.dst=none→u=undef)∧(if i∈Ls then C (s+1) u w' else C s v w')∧(∀ j v,F j v w→F j v w')∧F i u w') noQ)∧stepsC P Ls C F a0 (i+1) r Ws
 | _,_,_=>True
theorem chain_prefix {L:Nat→Bool} (hL:∀ k ok,ops[k]?=some ok→L k=true→∀ j∈waits ok,L j=true):∀ (M:List Nat),chained ops M=true→∀ (s:Nat) (i:Nat),M[s]?=some i→L i=true→∀ k,k<s→∀ j,M[k]?=some j→L j=true
 | [],_,s,i,h,_,k,_,j,hj=>by simp at h
 | [a],_,s,i,h,hi,k,hk,j,hj=>by
  cases s with
  | zero=>omega
  | succ s=>simp at h
 | a::b::r,hM,s,i,h,hi,k,hk,j,hj=>by
  simp only [chained,Bool.and_eq_true] at hM
  cases s with
  | zero=>omega
  | succ s =>
   have ih:=chain_prefix hL (b::r) hM.2 s i (by simpa using h) hi
   cases k with
   | succ k=>exact ih k (by omega) j (by simpa using hj)
   | zero =>
    simp at hj
    subst hj
    have hb:L b=true:=by
     cases s with
     | zero=>simp at h;subst h;exact hi
     | succ s=>exact ih 0 (by omega) b rfl
    cases ho:ops[b]? with
    | none=>rw [ho] at hM;simp at hM
    | some ob =>
     rw [ho] at hM
     exact hL b ob ho hb a (List.contains_iff_mem.1 hM.1)
theorem stage_at {Ls:List Nat} (hnd:Ls.Nodup) {L:Nat→Bool} (hpre:∀ (s:Nat) (i:Nat),Ls[s]?=some i→L i=true→∀ k,k<s→∀ j,Ls[k]?=some j→L j=true) {p i:Nat} (hp:Ls[p]?=some i) (hi:L i=false)
 (hw:∀ k,k<p→∀ j,Ls[k]?=some j→L j=true):stage Ls L=p∧stage Ls (also L i)=p+1:=by
 have hlt:p<Ls.length:=(List.getElem?_eq_some_iff.1 hp).1
 have hsplit:Ls=Ls.take p++i::Ls.drop (p+1):=by
  conv=>lhs;rw [← List.take_append_drop p Ls]
  congr 1
  rw [List.drop_eq_getElem_cons hlt]
  congr 1
  exact (List.getElem?_eq_some_iff.1 hp).2
 have h1:(Ls.take p).filter L=Ls.take p:=by
  rw [List.filter_eq_self]
  intro j hj
  obtain ⟨k,hk⟩:=List.getElem?_of_mem hj
  rw [List.getElem?_take] at hk
  split at hk
  ·rename_i hkp;exact hw k hkp j hk
  ·simp at hk
 have h2:(Ls.drop (p+1)).filter L=[]:=by
  rw [List.filter_eq_nil_iff]
  intro j hj hLj
  obtain ⟨k,hk⟩:=List.getElem?_of_mem hj
  rw [List.getElem?_drop] at hk
  have:=hpre (p+1+k) j hk hLj p (by omega) i hp
  rw [hi] at this
  cases this
 have hni1:i∉Ls.take p:=by
  intro h
  rw [hsplit] at hnd
  exact (List.nodup_append.1 hnd).2.2 i h i (by simp) rfl
 have hni2:i∉Ls.drop (p+1):=by
  rw [hsplit] at hnd
  exact (List.nodup_cons.1 (List.nodup_append.1 hnd).2.1).1
 have h1':(Ls.take p).filter (also L i)=Ls.take p:=by
  rw [List.filter_eq_self]
  intro j hj
  have:=List.filter_eq_self.1 h1 j hj
  unfold also;rw [this];simp
 have h2':(Ls.drop (p+1)).filter (also L i)=[]:=by
  rw [List.filter_eq_nil_iff]
  intro j hj h
  have:=List.filter_eq_nil_iff.1 h2 j hj
  unfold also at h
  have hne:j≠i:=fun e=>hni2 (e ▸ hj)
  simp [hne] at h
  exact this h
 constructor
 ·unfold stage
  rw [hsplit,List.filter_append,List.filter_cons,h1,h2,hi]
  simp
  omega
 ·unfold stage
  rw [hsplit,List.filter_append,List.filter_cons,h1',h2']
  have:also L i i=true:=by simp [also]
  rw [this]
  simp
  omega
theorem stage_other {Ls:List Nat} {L:Nat→Bool} {i:Nat} (hi:i∉Ls):stage Ls (also L i)=stage Ls L:=by
 unfold stage
 congr 1
 apply List.filter_congr
 intro j hj
 have hne:j≠i:=fun e=>hi (e ▸ hj)
 simp [also,hne]
theorem lastOf_other {Ls:List Nat} {vs:Nat→Value} {i:Nat} {v:Value} (hi:i∉Ls) (s:Nat):lastOf Ls (came vs i v) s=lastOf Ls vs s:=by
 cases s with
 | zero=>rfl
 | succ s =>
  simp only [lastOf]
  cases hj:Ls[s]? with
  | none=>rfl
  | some j =>
   have hne:j≠i:=fun e=>hi (e ▸ List.mem_of_getElem? hj)
   simp [came,hne]
theorem lastOf_at {Ls:List Nat} {vs:Nat→Value} {i p:Nat} {v:Value} (hp:Ls[p]?=some i):lastOf Ls (came vs i v) (p+1)=v:=by
 simp [lastOf,hp,came]
theorem wp_region_chain {id n:Nat} {Q:Exit→Act→World→Prop} {w:World} {l:List Oper} (Ls:List Nat) (C:Nat→Value→World→Prop) (F:Nat→Value→World→Prop) (Ws:List (List (Nat × Nat))) (D:List (Nat × Nat)) (hm:P.follows .mixedOrders=true)
 (ho:(orderly l.toArray n&&tabled l.toArray l Ws&&(l.length==Ws.length)&&tabled l.toArray [{ (default:Oper) with after:=((List.range l.length).map fun i=>(⟨i,.data⟩:Edge)).toArray }] [D]&&chained l.toArray Ls&&decide Ls.Nodup&&Ls.all (fun j=>decide (j<l.length)))=true)
 (hn:a0.tmps.size=n) (hC:C 0 undef w.drew) (hstep:stepsC P Ls C F a0 0 l Ws)
 (hfin:∀ (vs:Nat→Value) (w':World),C Ls.length (lastOf Ls vs Ls.length) w'→(∀ i,i<l.length→F i (vs i) w')→Q .normal (putsOf vs D a0) w'):(Code.region id l.toArray true).wp P Q a0 w:=by
 simp only [Bool.and_eq_true,beq_iff_eq,decide_eq_true_eq] at ho
 obtain ⟨⟨⟨⟨⟨⟨ho1,ho2⟩,ho3⟩,ho4⟩,ho5⟩,ho6⟩,ho7⟩:=ho
 refine wp_region_lit2 (n:=n) (fun L vs w=>C (stage Ls L) (lastOf Ls vs (stage Ls L)) w) F hm ho1 hn ?_ ?_ ?_
 ·intro vs
  have:stage Ls (fun _=>false)=0:=by simp [stage]
  rw [this]
  exact hC
 ·have key:∀ (m:List Oper) (Vs:List (List (Nat × Nat))) (k:Nat),tabled l.toArray m Vs=true→m.length=Vs.length→stepsC P Ls C F a0 k m Vs→(∀ (i:Nat) (o:Oper),m[i]?=some o→l[k+i]?=some o) →
   stepsFrom P l.toArray (fun L vs w=>C (stage Ls L) (lastOf Ls vs (stage Ls L)) w) F a0 k m:=by
   intro m
   induction m with
   | nil=>intro _ _ _ _ _ _;trivial
   | cons o m ih =>
    intro Vs k ht hl hs hat
    cases Vs with
    | nil=>simp at hl
    | cons W Vs =>
     simp only [tabled,List.map_cons,Bool.and_eq_true,beq_iff_eq,List.cons.injEq,List.all_cons] at ht
     obtain ⟨⟨ht1,ht2⟩,ht3,ht4⟩:=ht
     refine ⟨fun L vs w hLk hLw hcl hC hF=>?_,ih Vs (k+1) (by simp only [tabled,Bool.and_eq_true,beq_iff_eq];exact ⟨ht2,ht4⟩) (by simpa using hl) hs.2 (fun i o hi=>by rw [show k+1+i=k+(i+1) by omega];exact hat (i+1) o (by simpa using hi))⟩
     have hko:l.toArray[k]?=some o:=by simpa using hat 0 o rfl
     have hW:∀ p∈W,(l.toArray[p.2]?).bind (·.dst)=some p.1:=fun p hp=>by simpa using List.all_eq_true.1 ht3 p hp
     rw [frameOf_puts vs (waits o) W a0 ht1 hW]
     have hFW:∀ p∈W,F p.2 (vs p.2) w:=by
      intro p hp
      have:p.2∈(waits o).filter fun j=>((l.toArray[j]?).bind (·.dst)).isSome:=by rw [ht1];exact List.mem_map.2 ⟨p,hp,rfl⟩
      exact hF p.2 (List.mem_filter.1 this).1
     have hpre:∀ (s:Nat) (i:Nat),Ls[s]?=some i→L i=true→∀ j,j<s→∀ q,Ls[j]?=some q→L q=true:=fun s i h1 h2 j h3 q h4=>chain_prefix (ops:=l.toArray) hcl Ls ho5 s i h1 h2 j h3 q h4
     have hpos:∀ p,Ls[p]?=some k→stage Ls L=p∧stage Ls (also L k)=p+1:=by
      intro p hp
      refine stage_at ho6 hpre hp hLk ?_
      -- the one ahead of it is done
      cases p with
      | zero=>intro j hj;omega
      | succ p =>
       have hplt:p+1<Ls.length:=(List.getElem?_eq_some_iff.1 hp).1
       have hprev:∃ q,Ls[p]?=some q:=⟨_,List.getElem?_eq_getElem (by omega)⟩
       obtain ⟨q,hq⟩:=hprev
       have hqw:q∈waits o:=by
        have aux:∀ (M:List Nat) (p:Nat),chained l.toArray M=true→M[p]?=some q→M[p+1]?=some k→q∈waits o:=by
         intro M
         induction M with
         | nil=>intro p _ h;simp at h
         | cons a M ih =>
          intro p hM h1 h2
          cases M with
          | nil=>simp at h2
          | cons b r =>
           simp only [chained,Bool.and_eq_true] at hM
           cases p with
           | succ p=>exact ih p hM.2 (by simpa using h1) (by simpa using h2)
           | zero =>
            simp at h1 h2
            subst h1
            subst h2
            rw [hko] at hM
            exact List.contains_iff_mem.1 hM.1
        exact aux Ls p ho5 hq hp
       intro j hj r hr
       by_cases hjp:j=p
       ·subst hjp
        rw [hq] at hr
        cases hr
        exact hLw q hqw
       ·exact hpre p q hq (hLw q hqw) j (by omega) r hr
     obtain ⟨hg,hwp⟩:=hs.1 (stage Ls L) (lastOf Ls vs (stage Ls L)) vs w (fun hk=>by
      obtain ⟨p,hp⟩:=List.getElem?_of_mem hk
      rw [(hpos p hp).1];exact hp) rfl hC hFW
     have hwant:Region.wanted o (yielded l.toArray (putsOf vs W a0).tmps)=true:=by
      unfold Region.wanted
      cases hgd:o.guard with
      | none=>rfl
      | some p =>
       obtain ⟨j,b⟩:=p
       rw [hgd] at hg
       simp only at hg
       obtain ⟨hv,hany⟩:=hg
       obtain ⟨q,hq,hqj⟩:=List.any_eq_true.1 hany
       obtain rfl:q.2=j:=by simpa using hqj
       have hd:=hW q hq
       have hjs:∃ oj,l.toArray[q.2]?=some oj∧oj.dst=some q.1:=by
        obtain ⟨oj,h1,h2⟩:=Option.bind_eq_some_iff.1 hd
        exact ⟨oj,h1,h2⟩
       obtain ⟨oj,hoj,hdj⟩:=hjs
       have hqn:=((orderly_spec ho1 hoj).2.1 q.1 hdj).1
       have huniq:∀ k,(l.toArray[k]?).bind (·.dst)=some q.1→k=q.2:=by
        intro k hk
        obtain ⟨ok,hk1,hk2⟩:=Option.bind_eq_some_iff.1 hk
        exact ((orderly_spec ho1 hoj).2.1 q.1 hdj).2 k ok hk1 hk2
       have hmem:q.2∈waits o:=by
        have:q.2∈(waits o).filter fun j=>((l.toArray[j]?).bind (·.dst)).isSome:=by rw [ht1];exact List.mem_map.2 ⟨q,hq,rfl⟩
        exact (List.mem_filter.1 this).1
       have:=frameOf_at vs q.1 q.2 hd huniq (waits o) a0 (by rw [hn];exact hqn) (.inr hmem)
       rw [frameOf_puts vs (waits o) W a0 ht1 hW,hv] at this
       simp only [yielded,hd,Option.bind_some,this]
       simp
     rw [if_pos hwant]
     unfold Oper.wp at hwp ⊢
     refine upon_imp hwp ?_ ?_
     ·rintro v w' ⟨u,h0,h0',h2,h3,h4⟩
      have hu:=put_value (o:=o) (n:=n) (fun d hd=>((orderly_spec ho1 hko).2.1 d hd).1) (by rw [putsOf_size];exact hn) h0 h0'
      rw [hu]
      refine ⟨by rw [h0,put_defers',putsOf_defers],?_,h3,h4⟩
      by_cases hk:k∈Ls
      ·rw [if_pos hk] at h2
       obtain ⟨p,hp⟩:=List.getElem?_of_mem hk
       obtain ⟨e1,e2⟩:=hpos p hp
       rw [e2,lastOf_at hp]
       rw [e1] at h2
       exact h2
      ·rw [if_neg hk] at h2
       rw [stage_other hk,lastOf_other hk]
       exact h2
     ·rintro d w' ⟨u,h1,_⟩
      have:=congrArg Act.defers h1
      rw [put_defers',put_defers'] at this
      have:=congrArg List.length this
      simp at this
  exact key l Ws 0 ho2 ho3 hstep (fun i o hi=>by rw [Nat.zero_add];exact hi)
 ·intro L vs w' h0 h1 h2
  have hst:stage Ls L=Ls.length:=by
   unfold stage
   congr 1
   rw [List.filter_eq_self]
   intro j hj
   exact h0 j (by simpa using List.all_eq_true.1 ho7 j hj)
  have hr:waits { (default:Oper) with after:=((List.range l.length).map fun i=>(⟨i,.data⟩:Edge)).toArray }=List.range l.length:=by
   unfold waits
   have:(((List.range l.length).map fun i=>(⟨i,.data⟩:Edge)).toArray.toList.filter (Region.binds .any))=(List.range l.length).map fun i=>(⟨i,.data⟩:Edge):=by
    rw [List.filter_eq_self]
    intro e he
    obtain ⟨i,_,rfl⟩:=List.mem_map.1 (show e∈(List.range l.length).map fun i=>(⟨i,.data⟩:Edge) from he)
    rfl
   rw [this,List.map_map]
   have e:((fun x:Edge=>x.on) ∘ fun i=>(⟨i,.data⟩:Edge))=_root_.id:=by funext i;rfl
   rw [e,List.map_id]
   exact eraseDups_nodup _ List.nodup_range
  simp only [tabled,List.map_cons,List.map_nil,Bool.and_eq_true,beq_iff_eq,List.cons.injEq,List.all_cons,List.all_nil,and_true] at ho4
  rw [hr] at ho4
  rw [frameOf_puts vs (List.range l.length) D a0 ho4.1 (fun p hp=>by simpa using List.all_eq_true.1 ho4.2 p hp)]
  rw [hst] at h1
  exact hfin vs w' h1 h2
end
def regF (l:List (Value→World→Prop)) (j:Nat) (v:Value) (w:World):Prop:=(l.getD j (fun _ _=>True)) v w
def Stable (p:Value→World→Prop):Prop:=∀ w w',Kept [] w w'→∀ v,p v w→p v w'
theorem Stable.eq (x:Value):Stable (fun v _=>v=x):=fun _ _ _ _ h=>h
theorem Stable.true:Stable (fun _ _=>True):=fun _ _ _ _ h=>h
def allStable:List (Value→World→Prop)→Prop
 | []=>True
 | p::r=>Stable p∧allStable r
theorem regF_stable {l:List (Value→World→Prop)} (h:allStable l):∀ w w',Kept [] w w'→∀ j v,regF l j v w→regF l j v w':=by
 intro w w' hK j v
 induction l generalizing j with
 | nil=>intro h;exact h
 | cons p l ih =>
  cases j with
  | zero=>exact h.1 w w' hK v
  | succ j=>exact ih h.2 j
def Const (p:Value→World→Prop):Prop:=∀ w w' v,p v w→p v w'
theorem Const.eq (x:Value):Const (fun v _=>v=x):=fun _ _ _ h=>h
theorem Const.true:Const (fun _ _=>True):=fun _ _ _ h=>h
def allConst:List (Value→World→Prop)→Prop
 | []=>True
 | p::r=>Const p∧allConst r
theorem regF_const {l:List (Value→World→Prop)} (h:allConst l) {w w':World} {j:Nat} {v:Value} (hF:regF l j v w):regF l j v w':=by
 induction l generalizing j with
 | nil=>exact hF
 | cons p l ih =>
  cases j with
  | zero=>exact h.1 w w' v hF
  | succ j=>exact ih h.2 hF
section
variable {P : Program} {S : List Nat} {w0 w : World} {L : List Res} {Q : Exit → Act → World → Prop} {a : Act} {dst : Option Tmp} {ty : TypeId} {pos : String} {af : Array Edge} {g : Option (Nat × Bool)}
theorem opw_slice3 {K:Act→World→Prop} {t e:TypeId} {x lo hi ma:Operand} {size n c l h m:Nat} {A:Option Addr} {k1 k2 k3:IntKind} (hu:P.underlying t=some (.slice e)) (hi':(P.info? e).map (·.size)=some size)
 (hx:a.eval x=.slice A n c) (hlo:a.eval lo=.int k1 (l:Int)) (hhi:a.eval hi=.int k2 (h:Int)) (hma:a.eval ma=.int k3 (m:Int)) (hlh:l≤h) (hhm:h≤m) (hmc:m≤c)
 (hk:∀ B,K (a.put dst (.slice B (h-l) (m-l))) w) :
 Oper.wp P { dst,op:=.slice t x (some lo) (some hi) (some ma),type:=ty,pos,after:=af,guard:=g } a w K Q:=by
 cases hq:P.info? e with
 | none=>simp [hq] at hi'
 | some i =>
  have hs:i.size=size:=by simpa [hq] using hi'
  have b1:∀ code,(Instr.sliceBound (.int k1 (l:Int)) h code).run P w=.ok l w:=fun code=>run_sliceBound_nat hlh
  have b2:∀ code,(Instr.sliceBound (.int k2 (h:Int)) m code).run P w=.ok h w:=fun code=>run_sliceBound_nat hhm
  have b3:∀ code,(Instr.sliceBound (.int k3 (m:Int)) c code).run P w=.ok m w:=fun code=>run_sliceBound_nat hmc
  refine opw_val (v:=.slice (if m=l then A else A.map (·.add (l*size))) (h-l) (m-l)) (w':=w) ?_ (hk _)
  simp [execOp,Instr.sliceAt,hx,hlo,hhi,hma,Instr.slice,run_underlying hu,Instr.sliceBounds,b1,b2,b3,sizeOf,typeInfo,hq,hs,Result.andThen]
theorem opw_sliceAt {K:Act→World→Prop} {t e:TypeId} {x:Operand} {lo hi:Option Operand} {size n c b:Nat} (l h:Nat) (hu:P.underlying t=some (.slice e)) (hi':(P.info? e).map (·.size)=some size)
 (hx:a.eval x=.slice (some ⟨b,0,none⟩) n c) (hlo:(lo=none∧l=0)∨∃ k y,lo=some y∧a.eval y=.int k (l:Int)) (hhi:(hi=none∧h=n)∨∃ k y,hi=some y∧a.eval y=.int k (h:Int)) (hlh:l≤h) (hhc:h≤c) (o:Nat) (ho:o=if c=l then 0 else l*size)
 (hk:K (a.put dst (.slice (some ⟨b,o,none⟩) (h-l) (c-l))) w) :
 Oper.wp P { dst,op:=.slice t x lo hi none,type:=ty,pos,after:=af,guard:=g } a w K Q:=by
 cases hq:P.info? e with
 | none=>simp [hq] at hi'
 | some i =>
  have hs:i.size=size:=by simpa [hq] using hi'
  have hadd:(if c=l then some (⟨b,0,none⟩:Addr) else some ((⟨b,0,none⟩:Addr).add (l*size)))=some ⟨b,o,none⟩:=by
   subst ho
   split
   ·rfl
   ·have:(⟨b,0,none⟩:Addr).add (l*size)=⟨b,l*size,none⟩:=by unfold Addr.add;split<;>simp_all
    rw [this]
  refine opw_val (v:=.slice (some ⟨b,o,none⟩) (h-l) (c-l)) (w':=w) ?_ hk
  have hl1:∀ y k,a.eval y=.int k (l:Int)→∀ code,(Instr.sliceBound (a.eval y) h code).run P w=.ok l w:=fun y k hy code=>by rw [hy];exact run_sliceBound_nat hlh
  have hh1:∀ y k,a.eval y=.int k (h:Int)→∀ code,(Instr.sliceBound (a.eval y) c code).run P w=.ok h w:=fun y k hy code=>by rw [hy];exact run_sliceBound_nat hhc
  rw [← hadd]
  rcases hlo with ⟨rfl,rfl⟩ | ⟨k,y,rfl,hy⟩<;>rcases hhi with ⟨rfl,rfl⟩ | ⟨k',y',rfl,hy'⟩
  ·simp [execOp,Instr.sliceAt,Instr.slice,Instr.sliceBounds,run_underlying hu,hx,sizeOf,typeInfo,hq,hs]
  ·simp [execOp,Instr.sliceAt,Instr.slice,Instr.sliceBounds,run_underlying hu,hx,sizeOf,typeInfo,hq,hs,hh1 y' k' hy']
  ·simp [execOp,Instr.sliceAt,Instr.slice,Instr.sliceBounds,run_underlying hu,hx,sizeOf,typeInfo,hq,hs,hl1 y k hy]
  ·simp [execOp,Instr.sliceAt,Instr.slice,Instr.sliceBounds,run_underlying hu,hx,sizeOf,typeInfo,hq,hs,hl1 y k hy,hh1 y' k' hy']
theorem opw_appendIn {K:Act→World→Prop} {t tx e T:TypeId} {s x:Operand} {size n m cx k b cap:Nat} {c news:List Value} {A:Option Addr} (H:St S w0 L w)
 (hk:L[k]?=some (.blk b T c)) (hu:P.underlying t=some (.slice e)) (htx:P.underlying tx=some (.slice e)) (hi:(P.info? e).map (·.size)=some size)
 (hs:a.eval s=.slice (some ⟨b,0,none⟩) n cap) (hx:a.eval x=.slice A m cx) (hA:SlAt w A news) (hl:news.length=m*size) (h1:∀ u∈news,u.oneCell'=true)
 (hroom:n+m≤cap) (hlen:(n+m)*size≤c.length)
 (h:∀ w',St S w0 (L.set k (.blk b T (splice c (n*size) news))) w'→K (a.put dst (.slice (some ⟨b,0,none⟩) (n+m) cap)) w') :
 Oper.wp P { dst,op:=.call { callee:=.builtin .append,args:=#[s,x],argTypes:=#[t,tx] },type:=ty,pos,after:=af,guard:=g } a w K Q:=by
 cases hq:P.info? e with
 | none=>simp [hq] at hi
 | some i =>
  have hsz:i.size=size:=by simpa [hq] using hi
  have hcells:(Builtin.firstCells size m (.slice A m cx)).run P w=.ok news.toArray w:=by
   cases A with
   | none =>
    have:news=[]:=by
     cases news with
     | nil=>rfl
     | cons u r=>obtain ⟨a',e,_⟩:=hA 0 u rfl;simp at e
    subst this
    rfl
   | some ad =>
    have:=run_loadCells_list (P:=P) w ad news (fun i u hu=>hA.get hu)
    rw [hl] at this
    exact this
  have hst:=run_storeCells_blk P (H.blk hk) (n*size) news (by rw [hl,← Nat.add_mul];exact hlen) h1
  have hadd:(⟨b,0,none⟩:Addr).add (n*size)=⟨b,n*size,none⟩:=by unfold Addr.add;split<;>simp_all
  have hr:(Builtin.append_ #[t,tx] ty #[.slice (some ⟨b,0,none⟩) n cap,.slice A m cx]).run P w=.ok (.slice (some ⟨b,0,none⟩) (n+m) cap) (w.setRow b (splice c (n*size) news).toArray):=by
   simp [Builtin.append_,run_underlying hu,run_underlying htx,sizeOf,typeInfo,hq,hsz,Builtin.lenOf,hroom,hcells,hadd,hst,Result.andThen]
  refine opw_val (v:=.slice (some ⟨b,0,none⟩) (n+m) cap) (w':=w.setRow b (splice c (n*size) news).toArray) (by simp only [BigFrame.execOp_builtin,BigFrame.builtin_append,List.map_toArray,List.map_cons,List.map_nil,hs,hx,Sem.run_bind,hr,Result.andThen_ok,Sem.run_pure]) ?_
  have hlen2:(splice c (n*size) news).length=c.length:=by
   have:(n+m)*size=n*size+m*size:=Nat.add_mul _ _ _
   simp [splice];omega
  exact h _ (H.change hk (grownBy_setRow w b _) (setRow_blk (H.blk hk) hlen2) (fun b' hb'=>.inl hb'))
theorem opw_clear {K:Act→World→Prop} {t e T:TypeId} {x:Operand} {size n cx k b off:Nat} {z:Value} {c:List Value} (H:St S w0 L w)
 (hk:L[k]?=some (.blk b T c)) (hu:P.underlying t=some (.slice e)) (hi:(P.info? e).map (fun i=>(i.zero,i.size))=some (some z,size)) (hzs:z.cells.size=size)
 (hx:a.eval x=.slice (some ⟨b,off,none⟩) n cx) (hn:0<n) (hlen:off+n*size≤c.length) (h1:∀ u∈(Builtin.zeroCells z.cells n).toList,u.oneCell'=true)
 (h:∀ w',St S w0 (L.set k (.blk b T (splice c off (Builtin.zeroCells z.cells n).toList))) w'→K (a.put dst (.tuple #[])) w') :
 Oper.wp P { dst,op:=.call { callee:=.builtin .clear,args:=#[x],argTypes:=#[t] },type:=ty,pos,after:=af,guard:=g } a w K Q:=by
 cases hq:P.info? e with
 | none=>simp [hq] at hi
 | some i =>
  have hz:i.zero=some z∧i.size=size:=by simpa [hq] using hi
  have hzl:(Builtin.zeroCells z.cells n).toList.length=n*size:=by rw [Array.length_toList,appendZero,hzs]
  have hst:=run_storeCells_blk P (H.blk hk) off (Builtin.zeroCells z.cells n).toList (by omega) h1
  have hr:(Builtin.clear_ #[t] ty #[.slice (some ⟨b,off,none⟩) n cx]).run P w=.ok (.tuple #[]) (w.setRow b (splice c off (Builtin.zeroCells z.cells n).toList).toArray):=by
   obtain ⟨n,rfl⟩:∃ n',n=n'+1:=⟨n-1,by omega⟩
   simp [Builtin.clear_,run_underlying hu,zeroValue,typeInfo,hq,hz.1,hst,Result.andThen]
  refine opw_val (v:=.tuple #[]) (w':=w.setRow b (splice c off (Builtin.zeroCells z.cells n).toList).toArray) (by simp only [BigFrame.execOp_builtin,BigFrame.builtin_clear,List.map_toArray,List.map_cons,List.map_nil,hx,Sem.run_bind,hr,Result.andThen_ok,Sem.run_pure]) ?_
  have hlen2:(splice c off (Builtin.zeroCells z.cells n).toList).length=c.length:=by
   simp only [splice,List.length_append,List.length_take,List.length_drop,hzl];omega
  exact h _ (H.change hk (grownBy_setRow w b _) (setRow_blk (H.blk hk) hlen2) (fun b' hb'=>.inl hb'))
theorem St.perm {M:List Res} (H:St S w0 L w) (h:L.Perm M):St S w0 M w :=
 ⟨H.kept,fun r hr=>H.ok r (h.mem_iff.2 hr),fun r hr=>H.new r (h.mem_iff.2 hr),h.pairwise H.apart (fun {r s} hrs b hb hs=>hrs b hs hb)⟩
end
abbrev Env:=List (Tmp × Value)
def look (t:Tmp):Env→Option Value
 | []=>none
 | (s,v)::r=>match Nat.beq t s with
  | true=>some v
  | false=>look t r
def evalE (env:Env):Operand→Option Value
 | .tmp t=>look t env
 | .const v=>some v
 | .global g=>some (.pointer (some ⟨g,0,none⟩))
 | .func f=>some (.func (.func f) #[] #[])
def evalsE (env:Env):List Operand→Option (List Value)
 | []=>some []
 | x::r=>match evalE env x with
  | some v=>match evalsE env r with
   | some vs=>some (v::vs)
   | none=>none
  | none=>none
structure Models (n:Nat) (env:Env) (a:Act):Prop where
 size:a.tmps.size=n
 defers:a.defers=[]
 get:∀ t v,look t env=some v→a.tmps[t]?=some v
def dstOk (n:Nat):Option Tmp→Bool
 | none=>true
 | some d=>Nat.ble (d+1) n
def ext (dst:Option Tmp) (v:Value) (env:Env):Env :=
 match dst with
 | some d=>(d,v)::env
 | none=>env
theorem look_cons (t s:Tmp) (v:Value) (r:Env):look t ((s,v)::r)=if t=s then some v else look t r:=by
 show (match Nat.beq t s with | true=>some v | false=>look t r)=_
 cases hb:Nat.beq t s with
 | true=>rw [if_pos (Nat.eq_of_beq_eq_true hb)]
 | false=>rw [if_neg (Nat.ne_of_beq_eq_false hb)]
theorem Models.eval {n:Nat} {env:Env} {a:Act} (h:Models n env a) {x:Operand} {v:Value} (hx:evalE env x=some v):a.eval x=v:=by
 cases x with
 | tmp t =>
  have:=h.get t v hx
  simp [Act.eval,Array.getD_eq_getD_getElem?,this]
 | const u=>simpa [evalE,Act.eval] using hx
 | global g=>simpa [evalE,Act.eval] using hx
 | func f=>simpa [evalE,Act.eval] using hx
theorem Models.evals {n:Nat} {env:Env} {a:Act} (h:Models n env a):∀ {xs:List Operand} {vs:List Value},evalsE env xs=some vs→xs.map a.eval=vs
 | [],vs,e=>by simpa [evalsE] using e
 | x::r,vs,e=>by
  unfold evalsE at e
  cases hx:evalE env x with
  | none=>rw [hx] at e;simp at e
  | some v =>
   rw [hx] at e
   simp only at e
   cases hr:evalsE env r with
   | none=>rw [hr] at e;simp at e
   | some us =>
    rw [hr] at e
    simp only [Option.some.injEq] at e
    subst e
    rw [List.map_cons,h.eval hx,h.evals hr]
theorem Models.put {n:Nat} {env:Env} {a:Act} (h:Models n env a) {dst:Option Tmp} (hd:dstOk n dst=true) (v:Value):Models n (ext dst v env) (a.put dst v):=by
 cases dst with
 | none=>exact h
 | some d =>
  have hd':d<a.tmps.size:=by
   rw [h.size]
   have h1:d+1≤n:=Nat.le_of_ble_eq_true hd
   exact h1
  refine ⟨?_,h.defers,?_⟩
  ·simp [Act.put,h.size]
  ·intro t u ht
   simp only [ext] at ht
   rw [look_cons] at ht
   split at ht
   ·rename_i e
    subst e
    simp only [Option.some.injEq] at ht
    subst ht
    exact put_getElem_same hd'
   ·rename_i e
    rw [put_getElem_ne (by simpa using fun h=>e h.symm)]
    exact h.get t u ht
def par:Nat→List Value→Env
 | _,[]=>[]
 | k,v::r=>(k,v)::par (k+1) r
theorem look_par:∀ (vs:List Value) (k t:Nat) (v:Value),look t (par k vs)=some v→k≤t∧vs[t-k]?=some v
 | [],k,t,v,h=>by simp [par,look] at h
 | u::r,k,t,v,h=>by
  rw [par,look_cons] at h
  split at h
  ·rename_i e;subst e;exact ⟨Nat.le_refl _,by simpa using h⟩
  ·rename_i e
   have ih:=look_par r (k+1) t v h
   refine ⟨by omega,?_⟩
   rw [show t-k=(t-(k+1))+1 by omega]
   simpa using ih.2
theorem Models.enter (n:Nat) (args:List Value) (h:args.length≤n):Models n (par 0 args) { tmps:=args.toArray++Array.replicate (n-args.toArray.size) undef,defers:=[] }:=by
 refine ⟨by simp;omega,rfl,?_⟩
 intro t v ht
 have:=(look_par args 0 t v ht).2
 simp only [Nat.sub_zero] at this
 have hl:=(List.getElem?_eq_some_iff.1 this).1
 rw [Array.getElem?_append_left (by simpa using hl)]
 simpa using this
def Sub (env env':Env):Prop:=∀ t v,look t env'=some v→look t env=some v
theorem Sub.refl (env:Env):Sub env env:=fun _ _ h=>h
theorem Sub.nil (env:Env):Sub env []:=by intro t v h;simp [look] at h
theorem Sub.cons {env env':Env} {s:Tmp} {v:Value} (h:look s env=some v) (hs:Sub env env'):Sub env ((s,v)::env'):=by
 intro t u ht
 rw [look_cons] at ht
 split at ht
 ·rename_i e;subst e;rw [h,← ht]
 ·exact hs t u ht
theorem Models.sub {n:Nat} {env env':Env} {a:Act} (h:Models n env a) (hs:Sub env env'):Models n env' a:=⟨h.size,h.defers,fun t v ht=>h.get t v (hs t v ht)⟩
def pick (L:List Res):List Nat→Option (List Res)
 | []=>some []
 | k::r=>match L[k]? with
  | some x=>match pick L r with
   | some xs=>some (x::xs)
   | none=>none
  | none=>none
theorem pick_spec {L:List Res}:∀ {ks:List Nat} {M:List Res},pick L ks=some M→M.length=ks.length∧∀ (i:Nat) (x:Res),M[i]?=some x→∃ k,ks[i]?=some k∧L[k]?=some x
 | [],M,h=>by simp only [pick,Option.some.injEq] at h;subst h;simp
 | k::r,M,h=>by
  unfold pick at h
  cases hk:L[k]? with
  | none=>rw [hk] at h;simp at h
  | some x =>
   rw [hk] at h
   simp only at h
   cases hr:pick L r with
   | none=>rw [hr] at h;simp at h
   | some xs =>
    rw [hr] at h
    simp only [Option.some.injEq] at h
    subst h
    have ih:=pick_spec hr
    refine ⟨by simp [ih.1],?_⟩
    intro i y hi
    cases i with
    | zero=>simp only [List.getElem?_cons_zero,Option.some.injEq] at hi;subst hi;exact ⟨k,rfl,hk⟩
    | succ i=>simpa using ih.2 i y (by simpa using hi)
theorem St.pick {S:List Nat} {w0 w:World} {L M:List Res} (H:St S w0 L w) {ks:List Nat} (hnd:ks.Nodup) (h:pick L ks=some M):St S w0 M w:=by
 have hs:=pick_spec h
 have hmem:∀ r∈M,r∈L:=by
  intro r hr
  obtain ⟨i,hi⟩:=List.mem_iff_getElem?.1 hr
  obtain ⟨k,_,hk⟩:=hs.2 i r hi
  exact List.mem_of_getElem? hk
 refine ⟨H.kept,fun r hr=>H.ok r (hmem r hr),fun r hr=>H.new r (hmem r hr),?_⟩
 rw [List.pairwise_iff_getElem]
 intro i j hi hj hij b hb
 obtain ⟨k1,h1,h2⟩:=hs.2 i _ (List.getElem?_eq_getElem hi)
 obtain ⟨k2,h3,h4⟩:=hs.2 j _ (List.getElem?_eq_getElem hj)
 have hne:k1≠k2:=by
  intro e
  subst e
  have:=(List.getElem?_inj (by rw [← hs.1];exact hi) hnd).1 (h1.trans h3.symm)
  omega
 have hp:=List.pairwise_iff_getElem.1 H.apart
 have hk1:=(List.getElem?_eq_some_iff.1 h2)
 have hk2:=(List.getElem?_eq_some_iff.1 h4)
 rcases Nat.lt_or_gt_of_ne hne with hlt | hlt
 ·have:=hp k1 k2 hk1.1 hk2.1 hlt b (by rw [hk1.2];exact hb)
  rwa [hk2.2] at this
 ·intro hb2
  have:=hp k2 k1 hk2.1 hk1.1 hlt b (by rw [hk2.2];exact hb2)
  rw [hk1.2] at this
  exact this hb
theorem St.pickR {S:List Nat} {w0 w:World} {L M R:List Res} (m:Nat) (H:St S w0 L w) {ks:List Nat} (hnd:ks.Nodup) (hlt:∀ k∈ks,k<m) (h:PBYtfpdnpppcoomnaaGreat.pick L ks=some M) (hR:L.drop m=R):St S w0 (M++R) w:=by
 have hsplit:L=L.take m++L.drop m:=(List.take_append_drop m L).symm
 have hp:PBYtfpdnpppcoomnaaGreat.pick (L.take m) ks=some M:=by
  have key:∀ (ks:List Nat) (M:List Res),(∀ k∈ks,k<m)→PBYtfpdnpppcoomnaaGreat.pick L ks=some M→PBYtfpdnpppcoomnaaGreat.pick (L.take m) ks=some M:=by
   intro ks
   induction ks with
   | nil=>intro M _ h;exact h
   | cons k r ih =>
    intro M hl h
    unfold PBYtfpdnpppcoomnaaGreat.pick at h ⊢
    rw [List.getElem?_take,if_pos (hl k (by simp))]
    cases hk:L[k]? with
    | none=>rw [hk] at h;simp at h
    | some x =>
     rw [hk] at h
     simp only at h ⊢
     cases hr:PBYtfpdnpppcoomnaaGreat.pick L r with
     | none=>rw [hr] at h;simp at h
     | some xs=>rw [ih xs (fun k hk=>hl k (by simp [hk])) hr];rw [hr] at h;exact h
  exact key ks M hlt h
 subst hR
 have H1:St S w0 (L.take m++L.drop m) w:=by rw [← hsplit];exact H
 have Hm:=H1.sub (List.sublist_append_left _ _)
 have Hr:=H1.sub (List.sublist_append_right _ _)
 have Hp:=Hm.pick hnd hp
 have hs:=pick_spec hp
 refine ⟨H.kept,?_,?_,List.pairwise_append.2 ⟨Hp.apart,Hr.apart,?_⟩⟩
 ·intro r hr
  rcases List.mem_append.1 hr with h | h
  ·exact Hp.ok r h
  ·exact Hr.ok r h
 ·intro r hr
  rcases List.mem_append.1 hr with h | h
  ·exact Hp.new r h
  ·exact Hr.new r h
 ·intro r hr s hss
  obtain ⟨i,hi⟩:=List.mem_iff_getElem?.1 hr
  obtain ⟨k,_,hk⟩:=hs.2 i r hi
  exact (List.pairwise_append.1 H1.apart).2.2 r (List.mem_of_getElem? hk) s hss
abbrev QE:=Exit→Env→List Res→Prop
def lift (n:Nat) (S:List Nat) (w0:World) (Q:QE) (e:Exit) (a:Act) (w:World):Prop:=∃ env L,Models n env a∧St S w0 L w∧Q e env L
structure VC (P:Program) (n:Nat) (S:List Nat) (w0:World) (c:Code) (Q:QE) (env:Env) (L:List Res):Prop where
 run:∀ a w,Models n env a→St S w0 L w→c.wp P (lift n S w0 Q) a w
structure VL (P:Program) (n:Nat) (S:List Nat) (w0:World) (ops:Array Oper) (Q:QE) (l:List Oper) (env:Env) (L:List Res):Prop where
 run:∀ a w,Models n env a→St S w0 L w→wpList P ops (lift n S w0 Q) l a w
def QThen (K:Env→List Res→Prop) (Q:QE):QE
 | .normal,env,L=>K env L
 | e,env,L=>Q e env L
def QBlock (id:Nat) (Q:QE):QE
 | .exit id',env,L=>if id'=id then Q .normal env L else Q (.exit id') env L
 | e,env,L=>Q e env L
section
variable {P : Program} {n : Nat} {S : List Nat} {w0 : World} {Q : QE} {env : Env} {L : List Res}
theorem VC.mono {c:Code} {Q':QE} (h:VC P n S w0 c Q env L) (hq:∀ e env L,Q e env L→Q' e env L):VC P n S w0 c Q' env L :=
 ⟨fun a w hm H=>wp_mono (h.run a w hm H) fun e a w ⟨env,L,h1,h2,h3⟩=>⟨env,L,h1,h2,hq _ _ _ h3⟩⟩
theorem VC_seq {x y:Code} (h:VC P n S w0 x (QThen (VC P n S w0 y Q) Q) env L):VC P n S w0 (.seq x y) Q env L :=
 ⟨fun a w hm H=>wp_seq (wp_mono (h.run a w hm H) fun e a w ⟨env,L,h1,h2,h3⟩=>by
  cases e with
  | normal=>exact VC.run h3 a w h1 h2
  | _=>exact ⟨env,L,h1,h2,h3⟩)⟩
theorem VC_skip (h:Q .normal env L):VC P n S w0 .skip Q env L:=⟨fun a w hm H=>wp_skip ⟨env,L,hm,H,h⟩⟩
theorem VC_exit {id:Nat} (h:Q (.exit id) env L):VC P n S w0 (.exit id) Q env L:=⟨fun a w hm H=>wp_exit ⟨env,L,hm,H,h⟩⟩
theorem VC_ret (h:Q .ret env L):VC P n S w0 .ret Q env L:=⟨fun a w hm H=>wp_ret ⟨env,L,hm,H,h⟩⟩
theorem VC_label {l:Nat} (h:Q .normal env L):VC P n S w0 (.label l) Q env L:=⟨fun a w hm H=>wp_label ⟨env,L,hm,H,h⟩⟩
theorem VC_block {id:Nat} {c:Code} (h:VC P n S w0 c (QBlock id Q) env L):VC P n S w0 (.block id c) Q env L :=
 ⟨fun a w hm H=>wp_block (wp_mono (h.run a w hm H) fun e a w ⟨env,L,h1,h2,h3⟩=>by
  cases e with
  | exit id' =>
   simp only [Exit.inBlock,QBlock] at h3 ⊢
   split
   ·rename_i e;rw [if_pos e] at h3;exact ⟨env,L,h1,h2,h3⟩
   ·rename_i e;rw [if_neg e] at h3;exact ⟨env,L,h1,h2,h3⟩
  | _=>exact ⟨env,L,h1,h2,h3⟩)⟩
theorem VC_cond {c:Operand} {x y:Code} {t:Bool} (hc:evalE env c=some (.bool t)) (ht:t=true→VC P n S w0 x Q env L) (hf:t=false→VC P n S w0 y Q env L):VC P n S w0 (.cond c x y) Q env L :=
 ⟨fun a w hm H=>wp_cond_split (hm.eval hc) (fun h=>(ht h).run a w hm H) (fun h=>(hf h).run a w hm H)⟩
theorem VC_yes {c:Operand} {x y:Code} (hc:evalE env c=some (.bool true)) (ht:VC P n S w0 x Q env L):VC P n S w0 (.cond c x y) Q env L:=VC_cond hc (fun _=>ht) (fun h=>by cases h)
theorem VC_no {c:Operand} {x y:Code} (hc:evalE env c=some (.bool false)) (hf:VC P n S w0 y Q env L):VC P n S w0 (.cond c x y) Q env L:=VC_cond hc (fun h=>by cases h) (fun _=>hf)
theorem VC_sub {c:Code} {env':Env} {L':List Res} (h:VC P n S w0 c Q env' L') (he:Sub env env') (hL:∀ w,St S w0 L w→St S w0 L' w):VC P n S w0 c Q env L :=
 ⟨fun a w hm H=>h.run a w (hm.sub he) (hL w H)⟩
theorem VC_loop {c:Code} {ι:Type} (p:ι→Prop) (E:ι→Env) (R:ι→List Res) (μ:ι→Nat) (i0:ι) (h0:p i0) (hs0:Sub env (E i0)) (hL0:∀ w,St S w0 L w→St S w0 (R i0) w)
 (round:∀ i,p i→VC P n S w0 c (QThen (fun env L=>∃ j,p j∧μ j<μ i∧Sub env (E j)∧∀ w,St S w0 L w→St S w0 (R j) w) Q) (E i) (R i)):VC P n S w0 (.loop c) Q env L:=by
 refine ⟨fun a w hm H=>?_⟩
 have key:∀ (k:Nat) (i:ι),μ i=k→p i→∀ a w,Models n (E i) a→St S w0 (R i) w→∀ (b:Frame) (kk:List Item) (cs:List Frame),
  ∃ e a' w',lift n S w0 Q e a' w'∧Arrives P (lone (b.at a (.code c::.inLoop c::kk)) cs w) b kk cs e a' w':=by
  intro k
  induction k using Nat.strongRecOn with
  | _ k ih =>
   intro i hk hp a w hm H b kk cs
   obtain ⟨e,a1,w1,⟨env1,L1,h1,h2,h3⟩,harr⟩:=(round i hp).run a w hm H b (.inLoop c::kk) cs
   cases e with
   | normal =>
    obtain ⟨j,hpj,hlt,hsj,hLj⟩:=h3
    obtain ⟨e2,a2,w2,hq2,harr2⟩:=ih (μ j) (hk ▸ hlt) j rfl hpj a1 w1 (h1.sub hsj) (hLj w1 h2) b kk cs
    exact ⟨e2,a2,w2,hq2,.of_steps (Steps.trans harr (.one step_inLoop)) harr2⟩
   | exit id=>exact ⟨_,a1,w1,⟨env1,L1,h1,h2,h3⟩,.pass (x:=.inLoop c) rfl (fun _ _=>.inl (by simp)) harr⟩
   | goto l=>exact ⟨_,a1,w1,⟨env1,L1,h1,h2,h3⟩,.pass (x:=.inLoop c) rfl (fun _ _=>.inl (by simp)) harr⟩
   | ret=>exact ⟨_,a1,w1,⟨env1,L1,h1,h2,h3⟩,.pass (x:=.inLoop c) rfl (fun _ _=>.inl (by simp)) harr⟩
   | panic ch=>exact ⟨_,a1,w1,⟨env1,L1,h1,h2,h3⟩,.pass (x:=.inLoop c) rfl (fun _ _=>.inl (by simp)) harr⟩
   | outgrown=>exact ⟨_,a1,w1,⟨env1,L1,h1,h2,h3⟩,.pass (x:=.inLoop c) rfl (fun _ _=>.inl (by simp)) harr⟩
 intro b kk cs
 obtain ⟨e,a',w',hq,harr⟩:=key _ i0 rfl h0 a w (hm.sub hs0) (hL0 w H) b kk cs
 exact ⟨e,a',w',hq,.of_steps (.one step_loop) harr⟩
def ResE (P:Program) (n:Nat) (S:List Nat) (w0:World) (fn:Func) (env:Env) (L:List Res) (v:Value):Prop :=
 ∀ a w,Models n env a→St S w0 L w→(results fn a.tmps).run P w=.ok v w
def fin (P:Program) (n:Nat) (S:List Nat) (w0:World) (fn:Func) (R:Ending→List Res→Prop):QE
 | .normal,env,L | .ret,env,L=>∃ v,ResE P n S w0 fn env L v∧R (.returned v) L
 | .panic chain,env,L=>R (.panicked chain) L
 | _,_,_=>False
theorem enter {f:FuncId} {fn:Func} {c:Code} {w:World} {R:Ending→List Res→Prop} {R':Ending→World→Prop} (args:List Value) (hf:P.funcs[f]?=some fn) (hb:fn.body=some c) (hn:fn.ntmps=n) (hl:Nat.ble args.length n=true) (H:St S w0 L w)
 (h:VC P n S w0 c (fin P n S w0 fn R) (par 0 args) L) (hR:∀ e w' L',R e L'→St S w0 L' w'→R' e w'):Calls P f args.toArray w R':=by
 refine calls_of_wp hf hb ?_
 rw [hn]
 refine wp_mono (h.run _ w (Models.enter n args (Nat.le_of_ble_eq_true hl)) H) ?_
 rintro e a w' ⟨env',L',hm,H',hq⟩
 cases e with
 | normal=>obtain ⟨v,h1,h2⟩:=hq;exact ⟨hm.defers,v,h1 a w' hm H',hR _ _ _ h2 H'⟩
 | ret=>obtain ⟨v,h1,h2⟩:=hq;exact ⟨hm.defers,v,h1 a w' hm H',hR _ _ _ h2 H'⟩
 | panic chain=>exact ⟨hm.defers,hR _ _ _ hq H'⟩
 | exit _=>exact hq.elim
 | goto _=>exact hq.elim
 | outgrown=>exact hq.elim
theorem res0 {fn:Func} (h:fn.results=#[]):ResE P n S w0 fn env L (.tuple #[]):=fun a w hm H=>results_none h _ _ _
theorem res1 {fn:Func} {t:Tmp} {v:Value} (h:fn.results=#[.tmp t]) (ht:look t env=some v):ResE P n S w0 fn env L v:=fun a w hm H=>by
 rw [results_tmp h]
 have:=hm.get t v ht
 simp [Array.getD_eq_getD_getElem?,this]
theorem res2 {fn:Func} {t s:Tmp} {v u:Value} (h:fn.results=#[.tmp t,.tmp s]) (ht:look t env=some v) (hs:look s env=some u):ResE P n S w0 fn env L (.tuple #[v,u]):=fun a w hm H=>by
 rw [results_tmp2 h]
 have h1:=hm.get t v ht
 have h2:=hm.get s u hs
 simp [Array.getD_eq_getD_getElem?,h1,h2]
end
def pQ (Z:List PanicEntry→World→Prop):Exit→Act→World→Prop
 | .panic ch,_,w=>Z ch w
 | _,_,_=>False
section
variable {P : Program} {ops : Array Oper} {C : (Nat → Bool) → (Nat → Value) → World → Prop} {F : Nat → Value → World → Prop} {Z : List PanicEntry → World → Prop} {a0 : Act}
def stepZ (P:Program) (ops:Array Oper) (C:(Nat→Bool)→(Nat→Value)→World→Prop) (F:Nat→Value→World→Prop) (Z:List PanicEntry→World→Prop) (a0:Act) (i:Nat) (o:Oper):Prop :=
 ∀ (L:Nat→Bool) (vs:Nat→Value) (w:World),L i=false→(∀ j∈waits o,L j=true)→(∀ k ok,ops[k]?=some ok→L k=true→∀ j∈waits ok,L j=true)→C L vs w→(∀ j∈waits o,F j (vs j) w) →
  if Region.wanted o (yielded ops (frameOf ops vs (waits o) a0).tmps) then
   o.wp P (frameOf ops vs (waits o) a0) w (fun a' w'=>a'.defers=a0.defers∧C (also L i) (came vs i (valOf o a')) w'∧(∀ j v,F j v w→F j v w')∧F i (valOf o a') w') (pQ Z)
  else C (also L i) (came vs i undef) w∧F i undef w
theorem upon_impZ {o:Oper} {a a':Act} {r:Result Next} {K K':Act→World→Prop} {Q':Exit→Act→World→Prop} (h:o.upon P a K (pQ Z) r)
 (hk:∀ v w,K (a.put o.dst v) w→K' (a'.put o.dst v) w) (hz:∀ ch w,Z ch w→Q' (.panic ch) a' w) (hnod:∀ d w,¬ K ({ a with defers:=d::a.defers }.put o.dst undef) w):o.upon P a' K' Q' r:=by
 cases r with
 | ok n w =>
  cases n<;>simp only [Oper.upon] at h ⊢<;>first | exact h.elim | skip
  case value v=>exact hk _ _ h
  case skip=>exact hk _ _ h
  case defer d=>exact absurd h (hnod d w)
  case enter f args =>
   refine h.mono<|fun e w' h'=>?_
   cases e with
   | returned v=>exact hk _ _ h'
   | panicked c=>exact hz _ _ h'
   | outgrown=>obtain ⟨_,_,h''⟩:=h';exact h''.elim
  case row s args =>
   exact h.mono<|fun v w' h'=>hk _ _ h'
 | halt x w=>cases x<;>simp only [Oper.upon] at h ⊢<;>first | exact hz _ _ h | exact h
theorem rinv_stepZ {n:Nat} (ho:orderly ops n=true) (hn:a0.tmps.size=n) (hstep:∀ i o,ops[i]?=some o→stepZ P ops C F Z a0 i o) {listed:Array Bool} {a:Act} {w:World} (H:RInv ops C F a0 listed a w) {Q:Exit→Act→World→Prop} (hZ:∀ ch a w,a.tmps.size=n→a.defers=a0.defers→Z ch w→Q (.panic ch) a w)
 {i:Nat} (hi:i∈Region.ready .any ops listed):wpOp P ops Q i (fun a' w'=>RInv ops C F a0 (listed.setIfInBounds i true) a' w') a w:=by
 obtain ⟨hl,o,hio,hpre⟩:=mem_ready.1 hi
 obtain ⟨hw1,hw2,hw3⟩:=orderly_spec ho hio
 have hil:i<listed.size:=by rw [H.lsize];exact (Array.getElem?_eq_some_iff.1 hio).1
 have hlf:listed.getD i false=false:=by
  simp only [Array.getD_eq_getD_getElem?,Array.getElem?_eq_getElem hil,Option.getD_some] at hl ⊢
  exact hl
 have hwl:∀ j∈waits o,listed.getD j false=true:=by
  intro j hj
  obtain ⟨e,he,hb,rfl⟩:=of_mem_waits hj
  exact hpre e he hb
 let vs:Nat→Value:=valAt ops a
 have hfacts:∀ j∈waits o,F j (vs j) w:=by
  intro j hj
  have hji:=hw1 j hj
  have hjs:j<ops.size:=by have:=(Array.getElem?_eq_some_iff.1 hio).1;omega
  have hjo:ops[j]?=some ops[j]:=Array.getElem?_eq_getElem hjs
  have:=H.facts j _ hjo (hwl j hj)
  simp only [vs,valAt,hjo]
  exact this
 have hS:=hstep i o hio (fun j=>listed.getD j false) vs w hlf hwl (fun k ok hk hkl j hj=>H.closed k ok hk hkl j hj) H.c hfacts
 -- the slots that are looked at
 have hsame:∀ t∈o.looksAt ops,a.tmps[t]?=(frameOf ops vs (waits o) a0).tmps[t]?:=by
  intro t ht
  by_cases hex:∃ (j:Nat) (o':Oper),ops[j]?=some o'∧o'.dst=some t
  ·obtain ⟨j,o',hj,hd⟩:=hex
   have huniq:∀ k,(ops[k]?).bind (·.dst)=some t→k=j:=by
    intro k hk
    obtain ⟨ok,hk1,hk2⟩:=Option.bind_eq_some_iff.1 hk
    exact ((orderly_spec ho hj).2.1 t hd).2 k ok hk1 hk2
   have hnot:j∉waits o→(frameOf ops vs (waits o) a0).tmps[t]?=a0.tmps[t]?:=by
    intro hjw
    refine frameOf_other vs t (waits o) a0 (fun k hk hkd=>?_)
    exact hjw (huniq k hkd ▸ hk)
   have hfree:listed.getD j false=false→a.tmps[t]?=a0.tmps[t]?:=by
    intro hjl
    refine H.free t (fun k ok hk hkd=>?_)
    have:k=j:=huniq k (by rw [hk];exact hkd)
    rw [this];exact hjl
   rcases hw3 j o' t hj hd ht with h | h | h
   ·have htn:=((orderly_spec ho hj).2.1 t hd).1
    have hta:t<a.tmps.size:=by rw [H.size,hn];exact htn
    rw [frameOf_at vs t j (by rw [hj];exact hd) huniq (waits o) a0 (by rw [hn];exact htn) (.inr h)]
    simp only [vs,valAt,hj,valOf,hd]
    rw [Array.getElem?_eq_getElem hta,Array.getD_eq_getD_getElem?,Array.getElem?_eq_getElem hta]
    rfl
   ·subst h
    have hnw:j∉waits o:=fun h=>by have:=hw1 j h;omega
    rw [hnot hnw,hfree hlf]
   ·have hnl:listed.getD j false=false:=by
     cases hc:listed.getD j false with
     | false=>rfl
     | true=>have:=H.closed j o' hj hc i h;rw [hlf] at this;cases this
    have hnw:j∉waits o:=fun h'=>by have h1:=hw1 j h';have h2:=(orderly_spec ho hj).1 i h;omega
    rw [hnot hnw,hfree hnl]
  ·have h1:(frameOf ops vs (waits o) a0).tmps[t]?=a0.tmps[t]?:=by
    refine frameOf_other vs t (waits o) a0 (fun k _ hkd=>?_)
    obtain ⟨ok,hk1,hk2⟩:=Option.bind_eq_some_iff.1 hkd
    exact hex ⟨k,ok,hk1,hk2⟩
   rw [h1]
   exact H.free t (fun k ok hk hkd=>absurd ⟨k,ok,hk,hkd⟩ hex)
 have hsel:∀ cs b,o.op≠.select cs b:=by
  intro cs b
  simp only [orderly,Bool.and_eq_true] at ho
  exact Region.noSelect_spec ho.1 i o cs b hio
 have hexec:execOp a.eval o=execOp (frameOf ops vs (waits o) a0).eval o:=by
  refine execOp_congr o hsel (fun x hx=>?_)
  cases x with
  | tmp t =>
   have:=hsame t (by unfold Oper.looksAt;exact List.mem_append.2 (.inl (List.mem_filterMap.2 ⟨_,Array.mem_toList_iff.2 hx,rfl⟩)))
   simp only [Act.eval,Array.getD_eq_getD_getElem?,this]
  | const v=>rfl
  | global g=>rfl
  | func f=>rfl
 have hwant:Region.wanted o (yielded ops a.tmps)=Region.wanted o (yielded ops (frameOf ops vs (waits o) a0).tmps):=by
  unfold Region.wanted
  cases hg:o.guard with
  | none=>rfl
  | some p =>
   obtain ⟨j,b⟩:=p
   simp only
   congr 1
   unfold yielded
   cases hd:(ops[j]?).bind (·.dst) with
   | none=>rfl
   | some d =>
    have:=hsame d (by unfold Oper.looksAt;rw [hg];simp only [hd];exact List.mem_append.2 (.inr (by simp)))
    simp only [Option.bind_some,this]
 -- what the new state is
 have hnew:∀ v w',C (also (fun j=>listed.getD j false) i) (came vs i (match o.dst with | some _=>v | none=>undef)) w'→(∀ j v,F j v w→F j v w')→F i (match o.dst with | some _=>v | none=>undef) w'→RInv ops C F a0 (listed.setIfInBounds i true) (a.put o.dst v) w':=by
  intro v w' hC hR hF
  have hset:∀ j,(listed.setIfInBounds i true).getD j false=true→j≠i→listed.getD j false=true:=by
   intro j hj hne
   rwa [getD_set_ne false (Ne.symm hne)] at hj
  have hL:(fun j=>(listed.setIfInBounds i true).getD j false)=also (fun j=>listed.getD j false) i:=by
   funext j
   unfold also
   by_cases hji:j=i
   ·subst hji;simp [Array.getD_eq_getD_getElem?,hil]
   ·rw [getD_set_ne false (Ne.symm hji)];simp [hji]
  have hV:valAt ops (a.put o.dst v)=came vs i (match o.dst with | some _=>v | none=>undef):=by
   funext j
   unfold came
   by_cases hji:j=i
   ·subst hji
    simp only [valAt,hio,valOf,if_true]
    cases hd:o.dst with
    | none=>rfl
    | some d=>exact put_getD_same (by rw [H.size,hn];exact (hw2 d hd).1)
   ·simp only [hji,if_false,vs,valAt]
    cases hj:ops[j]? with
    | none=>rfl
    | some oj =>
     simp only [valOf]
     cases hd:oj.dst with
     | none=>rfl
     | some d=>exact put_getD_ne (fun he=>hji ((hw2 d he).2 j oj hj hd))
  refine ⟨by rw [hL,hV];exact hC,?_,by rw [put_size];exact H.size,by simpa using H.lsize,?_,?_,?_⟩
  ·rw [← H.defers];cases o.dst<;>rfl
  ·intro j oj hj hjl k hk
   refine getD_set_true ?_
   by_cases hji:j=i
   ·subst hji;rw [hio] at hj;cases hj;exact hwl k hk
   ·exact H.closed j oj hj (hset j hjl hji) k hk
  ·intro s hs
   have hne:o.dst≠some s:=by
    intro he
    have:=hs i o hio he
    simp [Array.getD_eq_getD_getElem?,hil] at this
   rw [put_getElem_ne hne]
   refine H.free s (fun k ok hk hkd=>?_)
   have h1:=hs k ok hk hkd
   by_cases hki:k=i
   ·subst hki;exact hlf
   ·rwa [getD_set_ne false (Ne.symm hki)] at h1
  ·intro j oj hj hjl
   by_cases hji:j=i
   ·subst hji
    rw [hio] at hj
    cases hj
    cases hd:o.dst with
    | none=>simpa [valOf,hd] using hF
    | some d =>
     have hdn:=(hw2 d hd).1
     simp only [hd] at hF
     simp only [valOf,hd]
     rw [put_getD_same (by rw [H.size,hn];exact hdn)]
     exact hF
   ·have h1:=H.facts j oj hj (hset j hjl hji)
    have h2:=hR j _ h1
    have e:valOf oj (a.put o.dst v)=valOf oj a:=by
     unfold valOf
     cases hd:oj.dst with
     | none=>rfl
     | some d =>
      simp only
      refine put_getD_ne (fun he=>?_)
      exact hji ((hw2 d he).2 j oj hj hd)
    rw [e]
    exact h2
 unfold wpOp
 simp only [hio]
 rw [hwant]
 by_cases hwt:Region.wanted o (yielded ops (frameOf ops vs (waits o) a0).tmps)=true
 ·rw [if_pos hwt] at hS ⊢
  refine .inl ?_
  unfold Oper.wp at hS ⊢
  rw [hexec]
  refine upon_impZ hS ?_ (fun ch w' h=>hZ ch a w' (H.size.trans hn) H.defers h) ?_
  ·rintro v w' ⟨_,hC,hR,hF⟩
   have hval:valOf o ((frameOf ops vs (waits o) a0).put o.dst v)=(match o.dst with | some _=>v | none=>undef):=by
    unfold valOf
    cases hd:o.dst with
    | none=>rfl
    | some d=>exact put_getD_same (by rw [frameOf_size,hn];exact (hw2 d hd).1)
   rw [hval] at hC hF
   exact hnew v w' hC hR hF
  ·rintro d w' ⟨hd,_⟩
   have hd':d::(frameOf ops vs (waits o) a0).defers=a0.defers:=by
    cases hod:o.dst<;>simpa [Act.put,hod] using hd
   rw [frameOf_defers] at hd'
   have:=congrArg List.length hd'
   simp at this
 ·rw [if_neg hwt] at hS ⊢
  have hval:(match o.dst with | some _=>undef | none=>undef)=undef:=by cases o.dst<;>rfl
  refine hnew undef w ?_ (fun _ _ h=>h) ?_
  ·rw [hval];exact hS.1
  ·rw [hval];exact hS.2
theorem rinv_anyZ {n:Nat} (ho:orderly ops n=true) (hn:a0.tmps.size=n) (hstep:∀ i o,ops[i]?=some o→stepZ P ops C F Z a0 i o) {Q:Exit→Act→World→Prop} (hZ:∀ ch a w,a.tmps.size=n→a.defers=a0.defers→Z ch w→Q (.panic ch) a w)
 (hfin:∀ listed a w,RInv ops C F a0 listed a w→Region.ready .any ops listed=[]→Q .normal a w):∀ (fuel:Nat) (listed:Array Bool) (a:Act) (w:World),
 RInv ops C F a0 listed a w→(List.range ops.size).countP (fun j=>!listed.getD j false)≤fuel→wpAny P .any ops Q fuel listed a w
 | 0,listed,a,w,H,hf=>by
  have hr:Region.ready .any ops listed=[]:=by
   rw [List.eq_nil_iff_forall_not_mem]
   intro i hi
   obtain ⟨hl,o,hio,_⟩:=mem_ready.1 hi
   have hil:i<ops.size:=(Array.getElem?_eq_some_iff.1 hio).1
   have h0:=List.countP_eq_zero.1 (Nat.le_zero.1 hf) i (List.mem_range.2 hil)
   have hil':i<listed.size:=by rw [H.lsize];exact hil
   simp only [Array.getD_eq_getD_getElem?,Array.getElem?_eq_getElem hil',Option.getD_some] at hl h0
   simp [hl] at h0
  exact ⟨hr,hfin _ _ _ H hr⟩
 | fuel+1,listed,a,w,H,hf=>by
  refine ⟨hfin _ _ _ H,fun i hi=>?_⟩
  refine wpOp_mono (fun a' w' H'=>rinv_anyZ ho hn hstep hZ hfin fuel _ a' w' H' ?_) (rinv_stepZ ho hn hstep H hZ hi)
  obtain ⟨hl,o,hio,_⟩:=mem_ready.1 hi
  have hil:i<ops.size:=(Array.getElem?_eq_some_iff.1 hio).1
  have hil':i<listed.size:=by rw [H.lsize];exact hil
  have hlf:listed.getD i false=false:=by
   simp only [Array.getD_eq_getD_getElem?,Array.getElem?_eq_getElem hil',Option.getD_some] at hl ⊢
   exact hl
  have key:∀ (l:List Nat),l.Nodup→i∈l→l.countP (fun j=>!(listed.setIfInBounds i true).getD j false)+1≤l.countP (fun j=>!listed.getD j false):=by
   intro l
   induction l with
   | nil=>intro _ h;cases h
   | cons x l ih =>
    intro hnd hm
    rw [List.countP_cons,List.countP_cons]
    have hle:∀ (l:List Nat),l.countP (fun j=>!(listed.setIfInBounds i true).getD j false)≤l.countP (fun j=>!listed.getD j false):=by
     intro l
     refine List.countP_mono_left (fun j _ hj=>?_)
     cases hc:listed.getD j false with
     | false=>rfl
     | true=>rw [getD_set_true hc] at hj;cases hj
    by_cases hx:x=i
    ·subst hx
     have h1:(listed.setIfInBounds x true).getD x false=true:=by simp [Array.getD_eq_getD_getElem?,hil']
     have:=hle l
     rw [h1,hlf]
     simpa using this
    ·have hm':i∈l:=by rcases List.mem_cons.1 hm with h | h;exact absurd h.symm hx;exact h
     have h1:=ih (List.nodup_cons.1 hnd).2 hm'
     rw [getD_set_ne false (fun h=>hx h.symm)]
     omega
  have:=key (List.range ops.size) List.nodup_range (List.mem_range.2 hil)
  omega
theorem wp_region_factsZ {id n:Nat} {Q:Exit→Act→World→Prop} {w:World} (hm:P.follows .mixedOrders=true) (ho:orderly ops n=true) (hn:a0.tmps.size=n) (hZ:∀ ch a w,a.tmps.size=n→a.defers=a0.defers→Z ch w→Q (.panic ch) a w) (hC:∀ vs,C (fun _=>false) vs w.drew)
 (hstep:∀ i o,ops[i]?=some o→stepZ P ops C F Z a0 i o)
 (hfin:∀ (L:Nat→Bool) (vs:Nat→Value) (w':World),(∀ i,i<ops.size→L i=true)→C L vs w'→(∀ i,i<ops.size→F i (vs i) w')→Q .normal (frameOf ops vs (List.range ops.size) a0) w'):(Code.region id ops true).wp P Q a0 w:=by
 have hfalse:(fun j=>(Array.replicate ops.size false).getD j false)=fun _=>false:=by
  funext j
  simp only [Array.getD_eq_getD_getElem?,Array.getElem?_replicate]
  split<;>rfl
 refine wp_region_any hm (rinv_anyZ (C:=C) (F:=F) ho hn hstep hZ ?_ ops.size _ a0 _ ⟨by rw [hfalse];exact hC _,rfl,rfl,by simp,?_,fun _ _=>rfl,?_⟩ ?_)
 ·intro listed a w' H hr
  -- all are listed
  have hall:∀ k,k≤ops.size→∀ i,i<k→listed.getD i false=true:=by
   intro k
   induction k with
   | zero=>intro _ i hi;omega
   | succ k ih =>
    intro hk i hi
    by_cases hik:i=k
    ·subst hik
     cases hc:listed.getD i false with
     | true=>rfl
     | false =>
      exfalso
      have hio:ops[i]?=some ops[i]:=Array.getElem?_eq_getElem (by omega)
      have hil:i<listed.size:=by rw [H.lsize];omega
      have:i∈Region.ready .any ops listed:=by
       refine mem_ready.2 ⟨?_,_,hio,?_⟩
       ·simp only [Array.getD_eq_getD_getElem?,Array.getElem?_eq_getElem hil,Option.getD_some] at hc ⊢
        exact hc
       ·intro e he hb
        have hlt:=(orderly_spec ho hio).1 e.on (mem_waits he hb)
        exact ih (by omega) e.on hlt
      rw [hr] at this
      cases this
    ·exact ih (by omega) i (by omega)
  let vs:Nat→Value:=valAt ops a
  have hfr:a=frameOf ops vs (List.range ops.size) a0:=by
   obtain ⟨tm,df⟩:=a
   have hd:(frameOf ops vs (List.range ops.size) a0).defers=df:=by rw [frameOf_defers];exact H.defers.symm
   have ht:(frameOf ops vs (List.range ops.size) a0).tmps=tm:=by
    apply Array.ext_getElem?
    intro s
    by_cases hex:∃ (j:Nat) (o':Oper),ops[j]?=some o'∧o'.dst=some s
    ·obtain ⟨j,o',hj,hds⟩:=hex
     have huniq:∀ k,(ops[k]?).bind (·.dst)=some s→k=j:=by
      intro k hk
      obtain ⟨ok,hk1,hk2⟩:=Option.bind_eq_some_iff.1 hk
      exact ((orderly_spec ho hj).2.1 s hds).2 k ok hk1 hk2
     have hsn:=((orderly_spec ho hj).2.1 s hds).1
     have hsa:s<tm.size:=by have h1:tm.size=a0.tmps.size:=H.size;rw [h1,hn];exact hsn
     rw [frameOf_at vs s j (by rw [hj];exact hds) huniq _ a0 (by rw [hn];exact hsn) (.inr (List.mem_range.2 (Array.getElem?_eq_some_iff.1 hj).1))]
     simp only [vs,valAt,hj,valOf,hds]
     rw [Array.getElem?_eq_getElem hsa,Array.getD_eq_getD_getElem?,Array.getElem?_eq_getElem hsa]
     rfl
    ·rw [frameOf_other vs s]
     ·exact (H.free s (fun k ok hk hkd=>absurd ⟨k,ok,hk,hkd⟩ hex)).symm
     ·intro k _ hkd
      obtain ⟨ok,hk1,hk2⟩:=Option.bind_eq_some_iff.1 hkd
      exact hex ⟨k,ok,hk1,hk2⟩
   cases hfa:frameOf ops vs (List.range ops.size) a0 with
   | mk t d=>rw [hfa] at hd ht;simp only at hd ht;rw [hd,ht]
  rw [hfr]
  refine hfin _ vs w' (fun i hi=>hall ops.size (Nat.le_refl _) i hi) H.c (fun i hi=>?_)
  have hio:ops[i]?=some ops[i]:=Array.getElem?_eq_getElem hi
  have:=H.facts i _ hio (hall ops.size (Nat.le_refl _) i hi)
  simp only [vs,valAt,hio]
  exact this
 ·intro i o hi hl
  have hlt:=(Array.getElem?_eq_some_iff.1 hi).1
  simp [Array.getD_eq_getD_getElem?,hlt] at hl
 ·intro i o hi hl
  have hlt:=(Array.getElem?_eq_some_iff.1 hi).1
  simp [Array.getD_eq_getD_getElem?,hlt] at hl
 ·exact Nat.le_trans List.countP_le_length (by simp)
end
inductive Sp where
 | val (f:Value)
 | any (F:Value→Prop) (N:Value→List Res)
def Sp.fact:Sp→Value→Prop
 | .val f,v=>v=f
 | .any F _,v=>F v
def Sp.res:Sp→Value→List Res
 | .val _,_=>[]
 | .any _ N,v=>N v
def Sp.cur:Sp→Value→Value
 | .val f,_=>f
 | .any _ _,v=>v
theorem Sp.cur_eq {s:Sp} {v:Value} (h:s.fact v):s.cur v=v:=by cases s with | val f=>exact h.symm | any F N=>rfl
def mask (C:List Nat) (xs:Nat→Value) (j:Nat):Value:=match C.contains j with | true=>xs j | false=>undef
inductive SpX where
 | val (C:List Nat) (f:(Nat→Value)→Value)
 | any (C:List Nat) (F:(Nat→Value)→Value→Prop) (N:(Nat→Value)→Value→List Res)
def SpX.cl:SpX→List Nat
 | .val C _=>C
 | .any C _ _=>C
def SpX.at:SpX→(Nat→Value)→Sp
 | .val C f,xs=>.val (f (mask C xs))
 | .any C F N,xs=>.any (F (mask C xs)) (N (mask C xs))
theorem mask_congr {C:List Nat} {xs ys:Nat→Value} (h:∀ j∈C,xs j=ys j):mask C xs=mask C ys:=by
 funext j
 unfold mask
 cases hc:C.contains j with
 | true=>exact h j (by simpa using hc)
 | false=>rfl
theorem SpX.at_congr {s:SpX} {xs ys:Nat→Value} (h:∀ j∈s.cl,xs j=ys j):s.at xs=s.at ys:=by
 cases s with
 | val C f=>show Sp.val (f (mask C xs))=Sp.val (f (mask C ys));rw [mask_congr (C:=C) h]
 | any C F N=>show Sp.any (F (mask C xs)) (N (mask C xs))=Sp.any (F (mask C ys)) (N (mask C ys));rw [mask_congr (C:=C) h]
def spAt:List SpX→Nat→SpX
 | [],_=>.val [] fun _=>undef
 | s::r,k=>match k with | 0=>s | k+1=>spAt r k
def gval (ops:Array Oper) (env:Env) (j:Nat):Option Bool :=
 match ((ops[j]?).bind (·.dst)).bind (look · env) with
 | some (.bool b)=>some b
 | _=>none
def Met (ops:Array Oper) (env:Env):Option (Nat × Bool)→Prop
 | none=>True
 | some (j,b)=>gval ops env j=some b
def gunm (ops:Array Oper) (env:Env) (j:Nat) (b:Bool):Bool :=
 match ((ops[j]?).bind (·.dst)).bind (look · env) with
 | some (.bool x)=>x != b
 | some _=>true
 | none=>false
def Unmet (ops:Array Oper) (env:Env):Option (Nat × Bool)→Prop
 | none=>False
 | some (j,b)=>gunm ops env j b=true
theorem gval_yielded {ops:Array Oper} {env:Env} {n:Nat} {a:Act} (hm:Models n env a) {j:Nat} {b:Bool} (h:gval ops env j=some b):yielded ops a.tmps j=some b:=by
 unfold gval at h
 unfold yielded
 cases hd:(ops[j]?).bind (·.dst) with
 | none=>rw [hd] at h;simp at h
 | some d =>
  rw [hd] at h
  simp only [Option.bind_some] at h ⊢
  cases hl:look d env with
  | none=>rw [hl] at h;simp at h
  | some v =>
   rw [hl] at h
   rw [hm.get d v hl]
   exact h
theorem Met.wanted {ops:Array Oper} {env:Env} {n:Nat} {a:Act} (hm:Models n env a) {o:Oper} (h:Met ops env o.guard):Region.wanted o (yielded ops a.tmps)=true:=by
 unfold Region.wanted
 cases hg:o.guard with
 | none=>rfl
 | some p =>
  obtain ⟨j,b⟩:=p
  rw [hg] at h
  simp only
  rw [gval_yielded hm h]
  simp
theorem gunm_yielded {ops:Array Oper} {env:Env} {n:Nat} {a:Act} (hm:Models n env a) {j:Nat} {b:Bool} (h:gunm ops env j b=true):(yielded ops a.tmps j==some b)=false:=by
 unfold gunm at h
 unfold yielded
 cases hd:(ops[j]?).bind (·.dst) with
 | none=>rw [hd] at h;simp at h
 | some d =>
  rw [hd] at h
  simp only [Option.bind_some] at h ⊢
  cases hl:look d env with
  | none=>rw [hl] at h;simp at h
  | some v =>
   rw [hl] at h
   rw [hm.get d v hl]
   cases v with
   | bool x=>cases x<;>cases b<;>first | rfl | cases h
   | _=>rfl
theorem Unmet.wanted {ops:Array Oper} {env:Env} {n:Nat} {a:Act} (hm:Models n env a) {o:Oper} (h:Unmet ops env o.guard):Region.wanted o (yielded ops a.tmps)=false:=by
 unfold Region.wanted
 cases hg:o.guard with
 | none=>rw [hg] at h;exact h.elim
 | some p =>
  obtain ⟨j,b⟩:=p
  rw [hg] at h
  simp only
  exact gunm_yielded hm h
structure QT (P:Program) (n:Nat) (S:List Nat) (w0:World) (o:Oper) (env:Env) (L:List Res) (s:Sp):Prop where
 run:∀ a w,Models n env a→St S w0 L w→o.wp P a w (fun a' w'=>∃ v,a'=a.put o.dst v∧(o.dst=none→v=undef)∧s.fact v∧St [] w (s.res v) w') noQ
def QG (P:Program) (n:Nat) (S:List Nat) (w0:World) (ops:Array Oper) (o:Oper) (env:Env) (L:List Res) (s:Sp):Prop :=
 (Met ops env o.guard∧QT P n S w0 o env L s)∨(Unmet ops env o.guard∧s=.val undef)
def envR (ops:Array Oper) (sp:List SpX) (xs:Nat→Value):List Nat→Env→Env
 | [],env=>env
 | j::r,env=>envR ops sp xs r (ext ((ops[j]?).bind (·.dst)) (((spAt sp j).at xs).cur (xs j)) env)
def resR (xs:Nat→Value) (D:Nat→Bool):Nat→List SpX→List Res
 | _,[]=>[]
 | k,s::r=>match D k with
  | true=>(s.at xs).res (xs k)++resR xs D (k+1) r
  | false=>resR xs D (k+1) r
theorem Models.envR {n:Nat} {ops:Array Oper} {sp:List SpX} {xs:Nat→Value} (hd:∀ (j:Nat) (o:Oper),ops[j]?=some o→dstOk n o.dst=true) :
 ∀ (W:List Nat) {env:Env} {a:Act},(∀ j∈W,((spAt sp j).at xs).fact (xs j))→Models n env a→Models n (envR ops sp xs W env) (frameOf ops xs W a)
 | [],env,a,_,h=>h
 | j::r,env,a,hf,h=>by
  refine Models.envR hd r (fun k hk=>hf k (by simp [hk])) ?_
  rw [Sp.cur_eq (hf j (by simp))]
  refine h.put ?_ _
  cases hj:ops[j]? with
  | none=>rfl
  | some o=>simpa using hd j o hj
theorem resR_sub {xs:Nat→Value} {D D':Nat→Bool} (h:∀ i,D i=true→D' i=true):∀ (sp:List SpX) (k:Nat),(resR xs D k sp).Sublist (resR xs D' k sp)
 | [],k=>.slnil
 | s::r,k=>by
  have ih:=resR_sub (xs:=xs) h r (k+1)
  unfold resR
  cases hk:D k with
  | true=>rw [h k hk];exact (List.Sublist.refl _).append ih
  | false =>
   cases hk':D' k with
   | true=>exact ih.trans (List.sublist_append_right _ _)
   | false=>exact ih
theorem resR_congr {xs ys:Nat→Value} {D D':Nat→Bool}:∀ (sp:List SpX) (k:Nat),(∀ i,k≤i→i<k+sp.length→D i=D' i∧(D i=true→xs i=ys i∧∀ j∈(spAt sp (i-k)).cl,xs j=ys j))→resR xs D k sp=resR ys D' k sp
 | [],k,_=>rfl
 | s::r,k,h=>by
  have ih:=resR_congr (xs:=xs) (ys:=ys) r (k+1) (fun i h1 h2=>by
   have:=h i (by omega) (by simp;omega)
   rw [show i-k=(i-(k+1))+1 by omega] at this
   exact this)
  unfold resR
  have hk:=h k (Nat.le_refl _) (by simp)
  rw [Nat.sub_self] at hk
  rw [← hk.1,ih]
  cases hd:D k with
  | true =>
   have h1:s.at xs=s.at ys:=SpX.at_congr (hk.2 hd).2
   rw [(hk.2 hd).1,h1]
  | false=>rfl
theorem came_cl {xs:Nat→Value} {i:Nat} {v:Value} {s:SpX} (h:i∉s.cl):s.at (came xs i v)=s.at xs :=
 SpX.at_congr fun j hj=>by unfold came;rw [if_neg (by rintro rfl;exact h hj)]
theorem resR_add {xs : Nat → Value} {D : Nat → Bool} {i : Nat} {v : Value} (hi : D i = false) : ∀ (sp : List SpX) (k : Nat), (∀ j, k ≤ j → j < k + sp.length → (D j = true ∨ j = i) → i ∉ (spAt sp (j - k)).cl) → k ≤ i → i < k + sp.length →
    (resR xs D k sp ++ ((spAt sp (i - k)).at xs).res v).Perm (resR (came xs i v) (also D i) k sp)
  | [], k, _, h1, h2 => by simp at h2; omega
  | s :: r, k, hcl, h1, h2 => by
    have hcl' : ∀ j, k + 1 ≤ j → j < k + 1 + r.length → (D j = true ∨ j = i) → i ∉ (spAt r (j - (k + 1))).cl := fun j a b c => by
      have := hcl j (by omega) (by simp; omega) c
      rw [show j - k = (j - (k + 1)) + 1 by omega] at this
      exact this
    by_cases hk : k = i
    · subst hk
      have hc : resR (came xs k v) (also D k) (k + 1) r = resR xs D (k + 1) r := by
        refine resR_congr r (k + 1) (fun j hj hj2 => ⟨?_, fun hd => ⟨?_, fun q hq => ?_⟩⟩)
        · unfold also; have : (j == k) = false := by simp; omega
          rw [this]; rfl
        · unfold came; rw [if_neg (by omega)]
        · unfold came
          rw [if_neg]
          rintro rfl
          refine hcl' j hj hj2 (.inl ?_) hq
          unfold also at hd
          have hb : (j == q) = false := by simp; omega
          rw [hb] at hd
          exact hd
      unfold resR
      have ha : also D k k = true := by simp [also]
      have hv : came xs k v k = v := by simp [came]
      have hs0 := hcl k (Nat.le_refl _) (by simp) (.inr rfl)
      rw [Nat.sub_self] at hs0
      rw [ha, hi, hc, hv, Nat.sub_self, came_cl (s := s) hs0]
      exact List.perm_append_comm
    · have ih := resR_add (xs := xs) hi (v := v) r (k + 1) hcl' (by omega) (by simp at h2; omega)
      have e : i - k = (i - (k + 1)) + 1 := by omega
      rw [e]
      show ((match D k with | true => (s.at xs).res (xs k) ++ resR xs D (k + 1) r | false => resR xs D (k + 1) r) ++ ((spAt r (i - (k + 1))).at xs).res v).Perm (match also D i k with | true => (s.at (came xs i v)).res (came xs i v k) ++ resR (came xs i v) (also D i) (k + 1) r | false => resR (came xs i v) (also D i) (k + 1) r)
      have ha : also D i k = D k := by unfold also; have : (k == i) = false := by simp; exact hk
                                       rw [this]; rfl
      have hv : came xs i v k = xs k := by unfold came; rw [if_neg hk]
      rw [ha, hv]
      cases hDk : D k with
      | true =>
        have h0 := hcl k (Nat.le_refl _) (by simp) (.inl hDk)
        rw [Nat.sub_self] at h0
        rw [came_cl (s := s) h0]
        simp only [List.append_assoc]
        exact ih.append_left _
      | false => exact ih
def quiets (P:Program) (n:Nat) (S:List Nat) (w0:World) (ops:Array Oper) (sp:List SpX) (env:Env) (L:List Res):Nat→List Oper→List (List Nat)→List (List Nat)→Prop
 | k,o::r,W::Ws,C::Cs=>(∀ xs:Nat→Value,(∀ j∈C,((spAt sp j).at xs).fact (xs j))→QG P n S w0 ops o (envR ops sp xs W env) (resR xs (fun j=>C.contains j) 0 sp++L) ((spAt sp k).at xs))∧quiets P n S w0 ops sp env L (k+1) r Ws Cs
 | _,[],_,_=>True
 | _,_,_,_=>False
theorem quiets_spec {P:Program} {n:Nat} {S:List Nat} {w0:World} {ops:Array Oper} {sp:List SpX} {env:Env} {L:List Res}:∀ (l:List Oper) (k:Nat) (Ws Cs:List (List Nat)),quiets P n S w0 ops sp env L k l Ws Cs →
 ∀ i o,l[i]?=some o→∃ W C,Ws[i]?=some W∧Cs[i]?=some C∧∀ xs:Nat→Value,(∀ j∈C,((spAt sp j).at xs).fact (xs j))→QG P n S w0 ops o (envR ops sp xs W env) (resR xs (fun j=>C.contains j) 0 sp++L) ((spAt sp (k+i)).at xs)
 | [],k,_,_,_,i,o,h=>by simp at h
 | x::l,k,[],_,h,i,o,hi=>by unfold quiets at h;exact h.elim
 | x::l,k,W::Ws,[],h,i,o,hi=>by unfold quiets at h;exact h.elim
 | x::l,k,W::Ws,C::Cs,h,0,o,hi=>by
  simp only [List.getElem?_cons_zero,Option.some.injEq] at hi
  subst hi
  exact ⟨W,C,rfl,rfl,h.1⟩
 | x::l,k,W::Ws,C::Cs,h,i+1,o,hi=>by
  have:=quiets_spec l (k+1) Ws Cs h.2 i o (by simpa using hi)
  rwa [show k+1+i=k+(i+1) by omega] at this
def tablesOk (ops:Array Oper) (m:Nat) (Ws Cs:List (List Nat)):Bool :=
 Ws.length==ops.size&&Cs.length==ops.size &&
 (List.range ops.size).all fun i=>match ops[i]?,Ws[i]?,Cs[i]? with
  | some o,some W,some C=>(C.all fun j=>Nat.ble (j+1) i)&&waits o==W&&(W.all fun j=>C.contains j)&&(C.all fun j=>W.contains j||C.any fun k=>Nat.ble (j+1) k&&match ops[k]? with | some o'=>(waits o').contains j | none=>false) &&
   (match Nat.ble m i with | true=>(List.range i).all fun j=>C.contains j | false=>true)
  | _,_,_=>false
theorem clos {ops:Array Oper} {m:Nat} {Ws Cs:List (List Nat)} (h:tablesOk ops m Ws Cs=true) (ho:∀ (i:Nat) (o:Oper),ops[i]?=some o→∀ j∈waits o,j<i) {i:Nat} {o:Oper} {C:List Nat} (hi:ops[i]?=some o) (hC:Cs[i]?=some C) {L:Nat→Bool}
 (hw:∀ j∈waits o,L j=true) (hcl:∀ (k:Nat) (ok:Oper),ops[k]?=some ok→L k=true→∀ j∈waits ok,L j=true):∀ j∈C,L j=true:=by
 simp only [tablesOk,Bool.and_eq_true,List.all_eq_true,List.mem_range] at h
 have hh:=h.2 i (Array.getElem?_eq_some_iff.1 hi).1
 rw [hi] at hh
 cases hW:Ws[i]? with
 | none=>rw [hW] at hh;simp at hh
 | some W =>
  rw [hW,hC] at hh
  simp only [Bool.and_eq_true,List.all_eq_true,beq_iff_eq] at hh
  obtain ⟨⟨⟨⟨h0,h1⟩,h2⟩,h3⟩,h4⟩:=hh
  subst h1
  have key:∀ d j,ops.size-j=d→j∈C→L j=true:=by
   intro d
   induction d using Nat.strongRecOn with
   | _ d ih =>
    intro j hd hj
    have:=h3 j hj
    simp only [Bool.or_eq_true,List.any_eq_true,Bool.and_eq_true] at this
    rcases this with h | ⟨k,hk,hlt,hc⟩
    ·exact hw j (by simpa using h)
    ·have hlt':=Nat.le_of_ble_eq_true hlt
     cases hok:ops[k]? with
     | none=>rw [hok] at hc;simp at hc
     | some ok =>
      rw [hok] at hc
      have hks:=(Array.getElem?_eq_some_iff.1 hok).1
      exact hcl k ok hok (ih (ops.size-k) (by omega) k rfl hk) j (by simpa using hc)
  exact fun j hj=>key _ j rfl hj
theorem spAt_of_le:∀ (sp:List SpX) (k:Nat),sp.length≤k→spAt sp k=.val [] fun _=>undef
 | [],_,_=>rfl
 | s::r,0,h=>by simp at h
 | s::r,k+1,h=>spAt_of_le r k (by simpa using h)
theorem frames_alike {ops:Array Oper} {n:Nat} (ho:orderly ops n=true) {a0:Act} (hn:a0.tmps.size=n) (vs:Nat→Value) {i:Nat} {o:Oper} (hi:ops[i]?=some o) {t:Tmp} (ht:t∈o.looksAt ops) :
 (frameOf ops vs (List.range i) a0).tmps[t]?=(frameOf ops vs (waits o) a0).tmps[t]?:=by
 obtain ⟨hw1,hw2,hw3⟩:=orderly_spec ho hi
 by_cases hex:∃ (j:Nat) (o':Oper),ops[j]?=some o'∧o'.dst=some t
 ·obtain ⟨j,o',hj,hd⟩:=hex
  have huniq:∀ k,(ops[k]?).bind (·.dst)=some t→k=j:=by
   intro k hk
   obtain ⟨ok,hk1,hk2⟩:=Option.bind_eq_some_iff.1 hk
   exact ((orderly_spec ho hj).2.1 t hd).2 k ok hk1 hk2
  have hda:(ops[j]?).bind (·.dst)=some t:=by rw [hj];exact hd
  have htn:=((orderly_spec ho hj).2.1 t hd).1
  have hno:∀ (l:List Nat),j∉l→(frameOf ops vs l a0).tmps[t]?=a0.tmps[t]?:=fun l hl =>
   frameOf_other vs t l a0 (fun k hk hkd=>hl (huniq k hkd ▸ hk))
  rcases hw3 j o' t hj hd ht with h | h | h
  ·have hji:=hw1 j h
   rw [frameOf_at vs t j hda huniq (List.range i) a0 (by rw [hn];exact htn) (.inr (List.mem_range.2 hji)),
    frameOf_at vs t j hda huniq (waits o) a0 (by rw [hn];exact htn) (.inr h)]
  ·subst h
   rw [hno _ (by simp),hno _ (fun h=>by have:=hw1 j h;omega)]
  ·have hji:=(orderly_spec ho hj).1 i h
   rw [hno _ (by simp;omega),hno _ (fun h=>by have:=hw1 j h;omega)]
 ·have hno:∀ (l:List Nat),(frameOf ops vs l a0).tmps[t]?=a0.tmps[t]?:=fun l =>
   frameOf_other vs t l a0 (fun k _ hkd=>by
    obtain ⟨ok,hk1,hk2⟩:=Option.bind_eq_some_iff.1 hkd
    exact hex ⟨k,ok,hk1,hk2⟩)
  rw [hno,hno]
theorem wp_alike {ops:Array Oper} {n:Nat} (ho:orderly ops n=true) {a0:Act} (hn:a0.tmps.size=n) (vs:Nat→Value) {i:Nat} {o:Oper} (hi:ops[i]?=some o) :
 execOp (frameOf ops vs (List.range i) a0).eval o=execOp (frameOf ops vs (waits o) a0).eval o ∧
 Region.wanted o (yielded ops (frameOf ops vs (List.range i) a0).tmps)=Region.wanted o (yielded ops (frameOf ops vs (waits o) a0).tmps):=by
 have hsel:∀ cs b,o.op≠.select cs b:=by
  intro cs b
  have ho':=ho
  simp only [orderly,Bool.and_eq_true] at ho'
  exact Region.noSelect_spec ho'.1 i o cs b hi
 constructor
 ·refine execOp_congr o hsel (fun x hx=>?_)
  cases x with
  | tmp t =>
   have:=frames_alike ho hn vs hi (t:=t) (by unfold Oper.looksAt;exact List.mem_append.2 (.inl (List.mem_filterMap.2 ⟨_,Array.mem_toList_iff.2 hx,rfl⟩)))
   simp only [Act.eval,Array.getD_eq_getD_getElem?,this]
  | const v=>rfl
  | global g=>rfl
  | func f=>rfl
 ·unfold Region.wanted
  cases hg:o.guard with
  | none=>rfl
  | some p =>
   obtain ⟨j,b⟩:=p
   simp only
   congr 1
   unfold yielded
   cases hd:(ops[j]?).bind (·.dst) with
   | none=>rfl
   | some d =>
    have:=frames_alike ho hn vs hi (t:=d) (by unfold Oper.looksAt;rw [hg];simp only [hd];exact List.mem_append.2 (.inr (by simp)))
    simp only [Option.bind_some,this]
def QN (Q:QE):QE
 | .normal,env,L=>Q .normal env L
 | .panic ch,_,L=>∀ env,Q (.panic ch) env L
 | _,_,_=>False
def zQ (S:List Nat) (w0:World) (Q:QE):List PanicEntry→World→Prop:=fun ch w=>∃ L,St S w0 L w∧∀ env,Q (.panic ch) env L
section
variable {P : Program} {n : Nat} {S : List Nat} {w0 : World} {Q : QE} {env : Env} {L : List Res}
theorem no_out:¬ LetsOut (lift n S w0 (QN Q)):=by
 rintro ⟨a,w,env,L,_,_,h⟩
 exact h
theorem no_panic {chain:List PanicEntry} {a:Act} {w:World} (hd:a.defers≠[]):¬ lift n S w0 (QN Q) (.panic chain) a w:=by
 rintro ⟨env,L,hm,_,_⟩
 exact hd hm.defers
theorem put_defs (a:Act) (x:Option Tmp) (v:Value):(a.put x v).defers=a.defers:=by cases x<;>rfl
theorem no_defers {ops:Array Oper}:∀ (rest:List Oper) (a:Act) (w:World),a.defers≠[]→¬ wpList P ops (lift n S w0 (QN Q)) rest a w
 | [],a,w,hd,h=>by
  obtain ⟨env,L,hm,_,_⟩:=h
  exact hd hm.defers
 | o::rest,a,w,hd,h=>by
  unfold wpList at h
  split at h
  ·rcases h with h | ⟨_,h⟩
   ·unfold Oper.wp at h
    cases hr:(execOp a.eval o).run P w with
    | ok x w' =>
     rw [hr] at h
     cases x<;>simp only [Oper.upon] at h<;>first | exact h.elim | skip
     case value v=>exact no_defers rest _ _ (by rw [put_defs];exact hd) h
     case skip=>exact no_defers rest _ _ (by rw [put_defs];exact hd) h
     case defer d=>exact no_defers rest _ _ (by rw [put_defs];simp) h
     case enter f args =>
      obtain ⟨e,w2,fr,h1,_⟩:=h []
      cases e with
      | returned v=>exact no_defers rest _ _ (by rw [put_defs];exact hd) h1
      | panicked c=>exact no_panic hd h1
      | outgrown=>exact no_out h1
     case row s args =>
      obtain ⟨v,w2,h1,_⟩:=h default []
      exact no_defers rest _ _ (by rw [put_defs];exact hd) h1
    | halt x w' =>
     rw [hr] at h
     cases x<;>simp only [Oper.upon] at h<;>first | exact h.elim | exact no_panic hd h
   ·exact no_out h
  ·exact no_defers rest _ _ (by rw [put_defs];exact hd) h
theorem upon_zQ {o:Oper} {a:Act} {K:Act→World→Prop} {r:Result Next} (h:o.upon P a K (lift n S w0 (QN Q)) r):o.upon P a K (pQ (zQ S w0 Q)) r:=by
 cases r with
 | ok x w =>
  cases x<;>simp only [Oper.upon] at h ⊢<;>first | exact h | skip
  refine h.mono<|fun e w' h'=>?_
  cases e with
  | returned v=>exact h'
  | panicked c=>obtain ⟨env,L,_,h1,h2⟩:=h';exact ⟨L,h1,h2⟩
  | outgrown=>exact (no_out h').elim
 | halt x w =>
  cases x<;>simp only [Oper.upon] at h ⊢<;>first | exact h | skip
  obtain ⟨env,L,_,h1,h2⟩:=h
  exact ⟨L,h1,h2⟩
theorem frameOf_append {ops:Array Oper} (vs:Nat→Value):∀ (l m:List Nat) (a:Act),frameOf ops vs (l++m) a=frameOf ops vs m (frameOf ops vs l a)
 | [],_,_=>rfl
 | j::l,m,a=>frameOf_append vs l m _
theorem frameOf_congr {ops:Array Oper} {vs us:Nat→Value}:∀ (l:List Nat) (a:Act),(∀ j∈l,vs j=us j)→frameOf ops vs l a=frameOf ops us l a
 | [],_,_=>rfl
 | j::l,a,h=>by
  unfold frameOf
  rw [h j (by simp)]
  exact frameOf_congr l _ (fun k hk=>h k (by simp [hk]))
theorem VC_draw {id:Nat} {l:List Oper} (m:Nat) (sp:List SpX) (Ws Cs:List (List Nat)) (hmix:P.follows .mixedOrders=true)
 (hok:(orderly l.toArray n&&tablesOk l.toArray m Ws Cs&&(sp.length==m)&&Nat.ble m l.length)=true)
 (hcl:∀ (i:Nat) (C:List Nat),Cs[i]?=some C→∀ j∈(spAt sp i).cl,j∈C)
 (hq:quiets P n S w0 l.toArray sp env L 0 (l.take m) Ws Cs)
 (hfin:∀ xs:Nat→Value,(∀ j,j<m→((spAt sp j).at xs).fact (xs j))→VL P n S w0 l.toArray (QN Q) (l.drop m) (envR l.toArray sp xs (List.range m) env) (resR xs (fun _=>true) 0 sp++L)) :
 VC P n S w0 (.region id l.toArray true) Q env L:=by
 simp only [Bool.and_eq_true,beq_iff_eq] at hok
 obtain ⟨⟨⟨ho,ht⟩,hsl⟩,hml⟩:=hok
 have hml:=Nat.le_of_ble_eq_true hml
 refine ⟨fun a0 w hmod H=>?_⟩
 have hn:=hmod.size
 have hlt:∀ (i:Nat) (o:Oper),l.toArray[i]?=some o→∀ j∈waits o,j<i:=fun i o hi=>(orderly_spec ho hi).1
 have hdst:∀ (j:Nat) (o:Oper),l.toArray[j]?=some o→dstOk n o.dst=true:=by
  intro j o hj
  cases hd:o.dst with
  | none=>rfl
  | some d=>exact Nat.ble_eq_true_of_le (((orderly_spec ho hj).2.1 d hd).1)
 have htab:∀ (i:Nat) (o:Oper),l.toArray[i]?=some o→∃ W C,Ws[i]?=some W∧Cs[i]?=some C∧waits o=W∧(∀ j∈W,j∈C)∧(m≤i→∀ j,j<i→j∈C):=by
  intro i o hi
  have ht':=ht
  simp only [tablesOk,Bool.and_eq_true,List.all_eq_true,List.mem_range] at ht'
  have hh:=ht'.2 i (Array.getElem?_eq_some_iff.1 hi).1
  rw [hi] at hh
  cases hW:Ws[i]? with
  | none=>rw [hW] at hh;simp at hh
  | some W =>
   cases hC:Cs[i]? with
   | none=>rw [hW,hC] at hh;simp at hh
   | some C =>
    rw [hW,hC] at hh
    simp only [Bool.and_eq_true,List.all_eq_true,beq_iff_eq] at hh
    obtain ⟨⟨⟨⟨h0,h1⟩,h2⟩,h3⟩,h4⟩:=hh
    refine ⟨W,C,rfl,rfl,h1,fun j hj=>by simpa using h2 j hj,fun hmi j hj=>?_⟩
    rw [Nat.ble_eq_true_of_le hmi] at h4
    simp only [List.all_eq_true,List.mem_range] at h4
    simpa using h4 j hj
 let Qf:=lift n S w0 (QN Q)
 let C:(Nat→Bool)→(Nat→Value)→World→Prop:=fun D xs w =>
  (∀ i,i<m→D i=true→((spAt sp i).at xs).fact (xs i)) ∧
  ((D m=false∧St S w0 (resR xs D 0 sp++L) w) ∨
   ∃ t,1≤t∧m+t≤l.length∧(∀ i,m≤i→i<l.length→D i=decide (i<m+t))∧wpList P l.toArray Qf (l.drop (m+t)) (frameOf l.toArray xs (List.range (m+t)) a0) w)
 -- the tail's beginning
 have hbegin:∀ (D:Nat→Bool) (xs:Nat→Value) (w:World),(∀ j,j<m→D j=true)→(∀ i,i<m→D i=true→((spAt sp i).at xs).fact (xs i))→St S w0 (resR xs D 0 sp++L) w →
  wpList P l.toArray Qf (l.drop m) (frameOf l.toArray xs (List.range m) a0) w:=by
  intro D xs w hD hF Hs
  have hfs:∀ j,j<m→((spAt sp j).at xs).fact (xs j):=fun j hj=>hF j hj (hD j hj)
  have e:resR xs D 0 sp=resR xs (fun _=>true) 0 sp:=resR_congr sp 0 (fun i _ hi=>⟨hD i (by omega),fun _=>⟨rfl,fun _ _=>rfl⟩⟩)
  rw [e] at Hs
  exact (hfin xs hfs).run _ w (Models.envR hdst _ (fun j hj=>hfs j (List.mem_range.1 hj)) hmod) Hs
 -- where the tail stands
 have htail:∀ (D:Nat→Bool) (xs:Nat→Value) (w:World) (i:Nat),m≤i→i≤l.length→(∀ j,j<i→D j=true)→(i<l.length→D i=false)→C D xs w →
  wpList P l.toArray Qf (l.drop i) (frameOf l.toArray xs (List.range i) a0) w:=by
  intro D xs w i h1 h2 hD hi hC
  obtain ⟨hF,hC⟩:=hC
  by_cases hmi:i=m
  ·subst hmi
   rcases hC with ⟨_,Hs⟩ | ⟨t,ht1,ht2,ht3,_⟩
   ·exact hbegin D xs w hD hF Hs
   ·have:=ht3 i (Nat.le_refl _) (by omega)
    rw [hi (by omega)] at this
    simp at this
    omega
  ·rcases hC with ⟨hm0,_⟩ | ⟨t,ht1,ht2,ht3,hw⟩
   ·rw [hD m (by omega)] at hm0;cases hm0
   ·have ha:=ht3 (i-1) (by omega) (by omega)
    rw [hD (i-1) (by omega)] at ha
    have ha':i-1<m+t:=by simpa using ha.symm
    have hb:m+t=i:=by
     by_cases hil:i<l.length
     ·have hb:=ht3 i (by omega) hil
      rw [hi hil] at hb
      have hb':¬ (i<m+t):=by simpa using hb.symm
      omega
     ·omega
    rw [hb] at hw
    exact hw
 refine wp_region_factsZ (C:=C) (F:=fun _ _ _=>True) (Z:=zQ S w0 Q) hmix ho hn (fun ch a w hs hd ⟨M,h1,h2⟩=>⟨[],M,⟨hs,hd.trans hmod.defers,fun t v h=>by cases h⟩,h1,h2 []⟩) (fun vs=>⟨fun i _ h=>absurd h Bool.false_ne_true,.inl ⟨rfl,?_⟩⟩) ?_ ?_
 ·have e:∀ (s:List SpX) (k:Nat),resR vs (fun _=>false) k s=[]:=by
   intro s
   induction s with
   | nil=>intro k;rfl
   | cons x s ih=>intro k;unfold resR;exact ih (k+1)
  rw [e,List.nil_append]
  exact H.drew
 ·intro i o hio D xs w hDi hDw hcl2 hC _
  have hil:i<l.length:=by simpa using (Array.getElem?_eq_some_iff.1 hio).1
  obtain ⟨W,Cl,hW,hCl,hWo,hWC,htl⟩:=htab i o hio
  have hClD:∀ j∈Cl,D j=true:=clos ht hlt hio hCl hDw hcl2
  -- those that are done wait for none that is not
  have hup:∀ (k:Nat) (ok:Oper),l.toArray[k]?=some ok→D k=true→m≤k→i<k→False:=by
   intro k ok hk hDk hmk hik
   obtain ⟨Wk,Ck,hWk,hCk,hWok,hWCk,htlk⟩:=htab k ok hk
   have:=clos ht hlt hk hCk (hcl2 k ok hk hDk) hcl2 i (htlk hmk i hik)
   rw [hDi] at this
   cases this
  by_cases him:i<m
  ·-- a quiet one
   obtain ⟨hF,hCC⟩:=hC
   have hDm:D m=false∧St S w0 (resR xs D 0 sp++L) w:=by
    rcases hCC with h | ⟨t,ht1,ht2,ht3,_⟩
    ·exact h
    ·exfalso
     have h0:=ht3 m (Nat.le_refl _) (by omega)
     have hDm:D m=true:=by rw [h0];simp;omega
     have hmo:l.toArray[m]?=some (l[m]'(by omega)):=by simp
     exact hup m _ hmo hDm (Nat.le_refl _) him
   obtain ⟨hDm,Hs⟩:=hDm
   obtain ⟨W',C',hW',hC',hobl⟩:=quiets_spec (l.take m) 0 Ws Cs hq i o (by
    rw [List.getElem?_take,if_pos him]
    simpa using hio)
   rw [Nat.zero_add] at hobl
   rw [hW] at hW'
   rw [hCl] at hC'
   obtain rfl:=Option.some.inj hW'
   obtain rfl:=Option.some.inj hC'
   have hClm:∀ j∈Cl,j<m:=by
    intro j hj
    have hDj:=hClD j hj
    by_cases hjm:j<m
    ·exact hjm
    ·exfalso
     by_cases hjl:j<l.length
     ·have hjo:l.toArray[j]?=some (l[j]'hjl):=by simp [hjl]
      exact hup j _ hjo hDj (by omega) (by omega)
     ·have ht':=ht
      simp only [tablesOk,Bool.and_eq_true,List.all_eq_true,List.mem_range] at ht'
      have hh:=ht'.2 i (by simpa using hil)
      rw [hio,hW,hCl] at hh
      simp only [Bool.and_eq_true,List.all_eq_true,beq_iff_eq] at hh
      have h3:=hh.1.2 j hj
      simp only [Bool.or_eq_true,List.any_eq_true,Bool.and_eq_true] at h3
      rcases h3 with h | ⟨k,hk,hlt2,hc⟩
      ·have:j∈waits o:=by rw [hWo];simpa using h
       have:=hlt i o hio j this
       omega
      ·cases hok:l.toArray[k]? with
       | none=>rw [hok] at hc;simp at hc
       | some ok =>
        rw [hok] at hc
        have:=hlt k ok hok j (by simpa using hc)
        have hkl:k<l.length:=by simpa using (Array.getElem?_eq_some_iff.1 hok).1
        omega
   have hfacts:∀ j∈Cl,((spAt sp j).at xs).fact (xs j):=fun j hj=>hF j (hClm j hj) (hClD j hj)
   have hobl:=hobl xs hfacts
   have hmw:Models n (envR l.toArray sp xs W env) (frameOf l.toArray xs (waits o) a0):=by
    rw [hWo]
    exact Models.envR hdst W (fun j hj=>hfacts j (hWC j hj)) hmod
   have Hs':St S w0 (resR xs (fun j=>Cl.contains j) 0 sp++L) w:=Hs.sub ((resR_sub (fun j hj=>hClD j (by simpa using hj)) sp 0).append (List.Sublist.refl _))
   have hncl:∀ k,(D k=true∨k=i)→k<m→i∉(spAt sp k).cl:=by
    intro k hk hkm hin
    have hkl:k<l.length:=by omega
    have hko:l.toArray[k]?=some (l[k]'hkl):=by simp [hkl]
    obtain ⟨Wk,Ck,hWk,hCk,hWok,hWCk,htlk⟩:=htab k _ hko
    have hiC:=hcl k Ck hCk i hin
    rcases hk with hk | hk
    ·have:=clos ht hlt hko hCk (hcl2 k _ hko hk) hcl2 i hiC
     rw [hDi] at this
     cases this
    ·subst hk
     rw [hCl] at hCk
     obtain rfl:=Option.some.inj hCk
     have:=hClD k hiC
     rw [hDi] at this
     cases this
   have hnew:∀ v w',((spAt sp i).at xs).fact v→St S w0 ((resR xs D 0 sp++L)++((spAt sp i).at xs).res v) w'→C (also D i) (came xs i v) w':=by
    intro v w' hv Hn
    refine ⟨?_,.inl ⟨?_,?_⟩⟩
    ·intro k hk hDk
     by_cases hki:k=i
     ·subst hki
      rw [came_cl (hncl k (.inr rfl) hk)]
      simp only [came,if_true];exact hv
     ·have:came xs i v k=xs k:=by unfold came;rw [if_neg hki]
      have hDk':D k=true:=by
       unfold also at hDk
       have hb:(k==i)=false:=by simp [hki]
       rw [hb] at hDk
       exact hDk
      rw [this,came_cl (hncl k (.inl hDk') hk)]
      refine hF k hk ?_
      unfold also at hDk
      have hb:(k==i)=false:=by simp [hki]
      rw [hb] at hDk
      exact hDk
    ·unfold also
     have hb:(m==i)=false:=by simp;omega
     rw [hb,hDm]
     rfl
    ·have hp:=resR_add (xs:=xs) (D:=D) hDi (v:=v) sp 0 (fun j _ hj hd=>by rw [Nat.sub_zero];exact hncl j hd (by omega)) (Nat.zero_le _) (by omega)
     rw [Nat.sub_zero] at hp
     refine Hn.perm<|List.Perm.trans ?_ (hp.append_right L)
     rw [List.append_assoc,List.append_assoc]
     exact List.perm_append_comm.append_left _
   rcases hobl with ⟨hmet,hqt⟩ | ⟨hun,hsp⟩
   ·rw [if_pos (hmet.wanted hmw)]
    have hwp:=hqt.run _ w hmw Hs'
    unfold Oper.wp at hwp ⊢
    refine upon_imp hwp ?_ ?_
    ·rintro v w' ⟨u,h1,h2,h3,h4⟩
     have hu:=put_value (o:=o) (n:=n) (fun d hd=>((orderly_spec ho hio).2.1 d hd).1) (by rw [frameOf_size];exact hn) h1 h2
     rw [hu]
     refine ⟨by rw [h1,put_defs,frameOf_defers],hnew u w' h3 (Hs.join h4),fun _ _ _=>trivial,trivial⟩
    ·rintro d w' ⟨u,h1,_⟩
     have h5:=congrArg Act.defers h1
     rw [put_defs,put_defs] at h5
     have h6:=congrArg List.length h5
     simp at h6
   ·rw [hun.wanted hmw]
    simp only [Bool.false_eq_true,if_false]
    refine ⟨hnew undef w ?_ ?_,trivial⟩
    ·rw [hsp];rfl
    ·rw [hsp];simpa [Sp.res] using Hs
  ·-- one of the tail
   have hall:∀ j,j<i→D j=true:=fun j hj=>hClD j (htl (by omega) j hj)
   have hw:=htail D xs w i (by omega) (by omega) hall (fun _=>hDi) hC
   have hdrop:l.drop i=o::l.drop (i+1):=by
    rw [List.drop_eq_getElem_cons hil]
    congr 1
    have h1:l[i]?=some o:=by simpa using hio
    exact (List.getElem?_eq_some_iff.1 h1).2
   rw [hdrop] at hw
   obtain ⟨hex,hwa⟩:=wp_alike ho hn xs hio
   have hnew:∀ v w',(o.dst=none→v=undef)→wpList P l.toArray Qf (l.drop (i+1)) ((frameOf l.toArray xs (List.range i) a0).put o.dst v) w'→C (also D i) (came xs i v) w':=by
    intro v w' hv hk
    have hne:∀ k,k≠i→also D i k=D k:=by
     intro k hk
     unfold also
     have hb:(k==i)=false:=by simp [hk]
     rw [hb];rfl
    refine ⟨?_,.inr ⟨i-m+1,by omega,by omega,?_,?_⟩⟩
    ·intro k hk hDk
     have hki:k≠i:=by omega
     have:came xs i v k=xs k:=by unfold came;rw [if_neg hki]
     have hicl:i∉(spAt sp k).cl:=by
      intro hin
      have hkl:k<l.length:=by omega
      have hko:l.toArray[k]?=some (l[k]'hkl):=by simp [hkl]
      obtain ⟨Wk,Ck,hWk,hCk,_,_,_⟩:=htab k _ hko
      have hiC:=hcl k Ck hCk i hin
      rw [hne k hki] at hDk
      have:=clos ht hlt hko hCk (hcl2 k _ hko hDk) hcl2 i hiC
      rw [hDi] at this
      cases this
     rw [this,came_cl hicl]
     rw [hne k hki] at hDk
     exact hC.1 k hk hDk
    ·intro k hmk hkl
     by_cases hki:k=i
     ·subst hki
      have:also D k k=true:=by simp [also]
      rw [this];symm;simp;omega
     ·rw [hne k hki]
      by_cases hlt':k<i
      ·rw [hall k hlt'];symm;simp;omega
      ·have hDk:D k=false:=by
        cases hd:D k with
        | false=>rfl
        | true =>
         have hko:l.toArray[k]?=some (l[k]'hkl):=by simp [hkl]
         exact (hup k _ hko hd hmk (by omega)).elim
       rw [hDk];symm;simp;omega
    ·rw [show m+(i-m+1)=i+1 by omega,List.range_succ,frameOf_append]
     have e1:frameOf l.toArray (came xs i v) (List.range i) a0=frameOf l.toArray xs (List.range i) a0 :=
      frameOf_congr _ _ (fun j hj=>by unfold came;rw [if_neg (by have:=List.mem_range.1 hj;omega)])
     rw [e1]
     have e2:(l.toArray[i]?).bind (·.dst)=o.dst:=by rw [hio];rfl
     have e3:came xs i v i=v:=by simp [came]
     show wpList P l.toArray Qf _ ((frameOf l.toArray xs (List.range i) a0).put ((l.toArray[i]?).bind (·.dst)) (came xs i v i)) w'
     rw [e2,e3]
     exact hk
   unfold wpList at hw
   rw [hwa] at hw
   split
   ·rename_i hwt
    rw [if_pos hwt] at hw
    rcases hw with hw | ⟨_,hw⟩
    ·unfold Oper.wp at hw ⊢
     rw [hex] at hw
     refine upon_impZ (upon_zQ hw) ?_ (fun _ _ h=>h) ?_
     ·intro v w' hk
      have hsz:∀ d,o.dst=some d→d<n:=fun d hd=>((orderly_spec ho hio).2.1 d hd).1
      cases hd:o.dst with
      | none =>
       rw [hd] at hk
       have hv:valOf o ((frameOf l.toArray xs (waits o) a0).put none v)=undef:=by unfold valOf;rw [hd]
       rw [hv]
       exact ⟨by rw [put_defs,frameOf_defers],hnew undef w' (fun _=>rfl) (by rw [hd];exact hk),fun _ _ _=>trivial,trivial⟩
      | some d =>
       have hv:valOf o ((frameOf l.toArray xs (waits o) a0).put (some d) v)=v:=by
        unfold valOf
        rw [hd]
        exact put_getD_same (by rw [frameOf_size,hn];exact hsz d hd)
       rw [hv]
       exact ⟨by rw [put_defs,frameOf_defers],hnew v w' (fun h=>by rw [hd] at h;cases h) hk,fun _ _ _=>trivial,trivial⟩
     ·intro d w' hk
      exact no_defers _ _ _ (by rw [put_defs];simp) hk
    ·exact (no_out hw).elim
   ·rename_i hwt
    rw [if_neg hwt] at hw
    exact ⟨hnew undef w (fun _=>rfl) hw,trivial⟩
 ·intro D xs w hD hC _
  have hw:=htail D xs w l.length hml (Nat.le_refl _) (fun j hj=>hD j (by simpa using hj)) (fun h=>absurd h (Nat.lt_irrefl _)) hC
  rw [List.drop_length] at hw
  obtain ⟨env',L',h1,h2,h3⟩:=hw
  refine ⟨env',L',?_,h2,h3⟩
  simpa using h1
theorem spAt_left:∀ (a b:List SpX) (j:Nat),j<a.length→spAt (a++b) j=spAt a j
 | [],b,j,h=>by simp at h
 | s::a,b,0,h=>rfl
 | s::a,b,j+1,h=>spAt_left a b j (by simpa using h)
theorem spAt_last:∀ (a:List SpX) (s:SpX) (b:List SpX),spAt (a++s::b) a.length=s
 | [],s,b=>rfl
 | x::a,s,b=>spAt_last a s b
theorem envR_left {ops:Array Oper} {xs:Nat→Value} (a b:List SpX):∀ (W:List Nat) (env:Env),(∀ j∈W,j<a.length)→envR ops (a++b) xs W env=envR ops a xs W env
 | [],env,_=>rfl
 | j::W,env,h=>by
  unfold envR
  rw [spAt_left a b j (h j (by simp))]
  exact envR_left a b W _ (fun k hk=>h k (by simp [hk]))
theorem resR_none {xs:Nat→Value} {D:Nat→Bool}:∀ (b:List SpX) (k:Nat),(∀ j,k≤j→D j=false)→resR xs D k b=[]
 | [],k,_=>rfl
 | s::b,k,h=>by
  unfold resR
  rw [h k (Nat.le_refl _)]
  exact resR_none b (k+1) (fun j hj=>h j (by omega))
theorem resR_left {xs:Nat→Value} {D:Nat→Bool}:∀ (a b:List SpX) (k:Nat),(∀ j,k+a.length≤j→D j=false)→resR xs D k (a++b)=resR xs D k a
 | [],b,k,h=>by rw [List.nil_append,resR_none b k (by simpa using h)];rfl
 | s::a,b,k,h=>by
  have ih:=resR_left (xs:=xs) a b (k+1) (fun j hj=>h j (by simp;omega))
  show (match D k with | true=>(s.at xs).res (xs k)++resR xs D (k+1) (a++b) | false=>resR xs D (k+1) (a++b))=(match D k with | true=>(s.at xs).res (xs k)++resR xs D (k+1) a | false=>resR xs D (k+1) a)
  rw [ih]
def quietsV (P:Program) (n:Nat) (S:List Nat) (w0:World) (ops:Array Oper) (L:List Res) (F:Env→Prop):List Oper→Env→Prop
 | [],env=>F env
 | o::r,env=>∃ f,QG P n S w0 ops o env L (.val f)∧quietsV P n S w0 ops L F r (ext o.dst f env)
def valsOf (fs:List Value):List SpX:=fs.map fun f=>.val [] fun _=>f
theorem spAt_vals:∀ (fs:List Value) (j:Nat),spAt (valsOf fs) j=.val [] fun _=>fs.getD j undef
 | [],j=>rfl
 | f::fs,0=>rfl
 | f::fs,j+1=>by
  show spAt (valsOf fs) j=_
  rw [spAt_vals fs j]
  simp
theorem look_other {ops:Array Oper} {sp:List SpX} {xs:Nat→Value} {t:Tmp}:∀ (W:List Nat) (env:Env),(∀ j∈W,(ops[j]?).bind (·.dst)≠some t)→look t (envR ops sp xs W env)=look t env
 | [],env,_=>rfl
 | j::W,env,h=>by
  unfold envR
  rw [look_other W _ (fun k hk=>h k (by simp [hk]))]
  have hj:=h j (by simp)
  cases hd:(ops[j]?).bind (·.dst) with
  | none=>rfl
  | some d =>
   rw [hd] at hj
   show look t ((d,_)::env)=_
   rw [look_cons,if_neg (by intro e;exact hj (by rw [e]))]
theorem look_at {ops:Array Oper} {sp:List SpX} {xs:Nat→Value} {t:Tmp} {j:Nat} (hd:(ops[j]?).bind (·.dst)=some t) (hu:∀ k,(ops[k]?).bind (·.dst)=some t→k=j):∀ (W:List Nat) (env:Env),(j∈W∨look t env=some (((spAt sp j).at xs).cur (xs j)))→look t (envR ops sp xs W env)=some (((spAt sp j).at xs).cur (xs j))
 | [],env,h=>by rcases h with h | h;(· simp at h);(· exact h)
 | k::W,env,h=>by
  unfold envR
  refine look_at hd hu W _ ?_
  by_cases hkj:k=j
  ·subst hkj
   right
   rw [hd]
   show look t ((t,_)::env)=_
   rw [look_cons,if_pos rfl]
  ·rcases h with h | h
   ·left
    rcases List.mem_cons.1 h with h | h
    ·exact absurd h.symm hkj
    ·exact h
   ·right
    cases hk:(ops[k]?).bind (·.dst) with
    | none=>exact h
    | some d =>
     show look t ((d,_)::env)=_
     rw [look_cons,if_neg (by intro e;exact hkj (hu k (by rw [hk,e])))]
     exact h
theorem quietsV_spec {ops:Array Oper} {F:Env→Prop} {env0:Env}:∀ (r:List Oper) (fs:List Value),(∀ i o,r[i]?=some o→ops[fs.length+i]?=some o) →
 quietsV P n S w0 ops L F r (envR ops (valsOf fs) (fun _=>undef) (List.range fs.length) env0) →
 ∃ gs:List Value,gs.length=r.length∧F (envR ops (valsOf (fs++gs)) (fun _=>undef) (List.range (fs++gs).length) env0) ∧
  ∀ i o,r[i]?=some o→QG P n S w0 ops o (envR ops (valsOf (fs++gs)) (fun _=>undef) (List.range (fs.length+i)) env0) L (.val ((fs++gs).getD (fs.length+i) undef))
 | [],fs,_,h=>⟨[],rfl,by simpa [quietsV] using h,fun i o hi=>by simp at hi⟩
 | o::r,fs,hat,h=>by
  obtain ⟨f,h1,h2⟩:=h
  have hsub:∀ (gs:List Value) (k:Nat),k≤fs.length→envR ops (valsOf (fs++gs)) (fun _=>undef) (List.range k) env0=envR ops (valsOf fs) (fun _=>undef) (List.range k) env0:=by
   intro gs k hk
   have:valsOf (fs++gs)=valsOf fs++valsOf gs:=by simp [valsOf]
   rw [this]
   exact envR_left _ _ _ _ (fun j hj=>by have:=List.mem_range.1 hj;simp [valsOf];omega)
  have hstep:ext o.dst f (envR ops (valsOf fs) (fun _=>undef) (List.range fs.length) env0)=envR ops (valsOf (fs++[f])) (fun _=>undef) (List.range (fs++[f]).length) env0:=by
   have hap:∀ (l m:List Nat) (e:Env),envR ops (valsOf (fs++[f])) (fun _=>undef) (l++m) e=envR ops (valsOf (fs++[f])) (fun _=>undef) m (envR ops (valsOf (fs++[f])) (fun _=>undef) l e):=by
    intro l
    induction l with
    | nil=>intro m e;rfl
    | cons j l ih=>intro m e;exact ih m _
   rw [show (fs++[f]).length=fs.length+1 by simp,List.range_succ,hap,hsub [f] fs.length (Nat.le_refl _)]
   show _=ext ((ops[fs.length]?).bind (·.dst)) (((spAt (valsOf (fs++[f])) fs.length).at fun _=>undef).cur undef) _
   have h0:=hat 0 o rfl
   rw [Nat.add_zero] at h0
   rw [h0,spAt_vals]
   simp [Sp.cur,SpX.at]
  rw [hstep] at h2
  obtain ⟨gs,hg1,hg2,hg3⟩:=quietsV_spec r (fs++[f]) (fun i o' hi=>by
   have:=hat (i+1) o' (by simpa using hi)
   rwa [show (fs++[f]).length+i=fs.length+(i+1) by simp;omega]) h2
  refine ⟨f::gs,by simp [hg1],by simpa using hg2,?_⟩
  intro i o' hi
  cases i with
  | zero =>
   simp only [List.getElem?_cons_zero,Option.some.injEq] at hi
   subst hi
   rw [Nat.add_zero,hsub (f::gs) fs.length (Nat.le_refl _)]
   simpa using h1
  | succ i =>
   have:=hg3 i o' (by simpa using hi)
   simp only [List.append_assoc,List.singleton_append] at this
   rwa [show (fs++[f]).length+i=fs.length+(i+1) by simp;omega] at this
theorem quiets_of {ops:Array Oper} {sp:List SpX}:∀ (l:List Oper) (k:Nat) (Ws Cs:List (List Nat)),l.length≤Ws.length→l.length≤Cs.length →
 (∀ (i:Nat) (o:Oper) (W C:List Nat),l[i]?=some o→Ws[i]?=some W→Cs[i]?=some C→∀ xs:Nat→Value,(∀ j∈C,((spAt sp j).at xs).fact (xs j))→QG P n S w0 ops o (envR ops sp xs W env) (resR xs (fun j=>C.contains j) 0 sp++L) ((spAt sp (k+i)).at xs))→quiets P n S w0 ops sp env L k l Ws Cs
 | [],k,Ws,Cs,_,_,_=>by unfold quiets;trivial
 | o::l,k,[],Cs,h,_,_=>by simp at h
 | o::l,k,W::Ws,[],_,h,_=>by simp at h
 | o::l,k,W::Ws,C::Cs,h1,h2,h=>⟨fun xs hx=>by simpa using h 0 o W C rfl rfl rfl xs hx,quiets_of l (k+1) Ws Cs (by simpa using h1) (by simpa using h2) (fun i o' W' C' a b c xs hx=>by
  have:=h (i+1) o' W' C' (by simpa using a) (by simpa using b) (by simpa using c) xs hx
  rwa [show k+(i+1)=k+1+i by omega] at this)⟩
theorem resR_vals (xs:Nat→Value) (D:Nat→Bool):∀ (fs:List Value) (k:Nat),resR xs D k (valsOf fs)=[]
 | [],k=>rfl
 | f::fs,k=>by
  show (match D k with | true=>[]++resR xs D (k+1) (valsOf fs) | false=>resR xs D (k+1) (valsOf fs))=[]
  rw [resR_vals xs D fs (k+1)]
  cases D k<;>rfl
theorem VC_drawG {id:Nat} {l:List Oper} (m:Nat) (sp:List SpX) (Ws Cs:List (List Nat)) (hmix:P.follows .mixedOrders=true)
 (hok:(orderly l.toArray n&&tablesOk l.toArray m Ws Cs&&(sp.length==m)&&Nat.ble m l.length)=true)
 (hqs:∀ (i:Nat) (o:Oper) (C:List Nat),(l.take m)[i]?=some o→Cs[i]?=some C→∀ xs:Nat→Value,(∀ j∈C,((spAt sp j).at xs).fact (xs j))→QG P n S w0 l.toArray o (envR l.toArray sp xs (List.range i) env) (resR xs (fun j=>C.contains j) 0 sp++L) ((spAt sp i).at xs))
 (hcl:∀ (i:Nat) (C:List Nat),Cs[i]?=some C→∀ j∈(spAt sp i).cl,j∈C)
 (hfin:∀ xs:Nat→Value,(∀ j,j<m→((spAt sp j).at xs).fact (xs j))→VL P n S w0 l.toArray (QN Q) (l.drop m) (envR l.toArray sp xs (List.range m) env) (resR xs (fun _=>true) 0 sp++L)) :
 VC P n S w0 (.region id l.toArray true) Q env L:=by
 have hok':=hok
 simp only [Bool.and_eq_true,beq_iff_eq] at hok'
 obtain ⟨⟨⟨ho,ht⟩,hsl⟩,hml⟩:=hok'
 have hml':=Nat.le_of_ble_eq_true hml
 have hsz:Ws.length=l.length∧Cs.length=l.length:=by
  have ht':=ht
  simp only [tablesOk,Bool.and_eq_true,beq_iff_eq] at ht'
  exact ⟨by simpa using ht'.1.1,by simpa using ht'.1.2⟩
 refine VC_draw m sp Ws Cs hmix hok hcl ?_ hfin
 ·refine quiets_of (l.take m) 0 Ws Cs (by rw [List.length_take];omega) (by rw [List.length_take];omega)<|fun i o W C hi hW hC xs hx=>?_
  have him:i<m:=by
   have:=(List.getElem?_eq_some_iff.1 hi).1
   rw [List.length_take] at this
   omega
  have hio:l.toArray[i]?=some o:=by
   rw [List.getElem?_take,if_pos him] at hi
   simpa using hi
  have hq:=hqs i o C hi hC xs hx
  rw [Nat.zero_add]
  -- the tables
  have hWo:waits o=W:=by
   have ht':=ht
   simp only [tablesOk,Bool.and_eq_true,List.all_eq_true,List.mem_range] at ht'
   have hh:=ht'.2 i (Array.getElem?_eq_some_iff.1 hio).1
   rw [hio,hW,hC] at hh
   simp only [Bool.and_eq_true,beq_iff_eq] at hh
   exact hh.1.1.1.2
  obtain ⟨hw1,hw2,hw3⟩:=orderly_spec ho hio
  have hWi:∀ j∈W,j<i:=fun j hj=>hw1 j (hWo ▸ hj)
  have hdst:∀ (j:Nat) (o:Oper),l.toArray[j]?=some o→dstOk n o.dst=true:=by
   intro j o hj
   cases hd:o.dst with
   | none=>rfl
   | some d=>exact Nat.ble_eq_true_of_le (((orderly_spec ho hj).2.1 d hd).1)
  let vs:Nat→Value:=fun j=>((spAt sp j).at xs).cur (xs j)
  have key:∀ a,Models n (envR l.toArray sp xs W env) a→Models n (envR l.toArray sp xs (List.range i) env) (frameOf l.toArray vs (List.range i) a) ∧
   (∀ t∈o.looksAt l.toArray,(frameOf l.toArray vs (List.range i) a).tmps[t]?=a.tmps[t]?):=by
   intro a hm
   constructor
   ·refine ⟨by rw [frameOf_size];exact hm.size,by rw [frameOf_defers];exact hm.defers,?_⟩
    intro t v htv
    by_cases hex:∃ j,j<i∧(l.toArray[j]?).bind (·.dst)=some t
    ·obtain ⟨j,hji,hd⟩:=hex
     obtain ⟨oj,hj1,hj2⟩:=Option.bind_eq_some_iff.1 hd
     have hu:∀ k,(l.toArray[k]?).bind (·.dst)=some t→k=j:=by
      intro k hk
      obtain ⟨ok,hk1,hk2⟩:=Option.bind_eq_some_iff.1 hk
      exact ((orderly_spec ho hj1).2.1 t hj2).2 k ok hk1 hk2
     rw [look_at hd hu _ _ (.inl (List.mem_range.2 hji))] at htv
     rw [frameOf_at vs t j hd hu _ a (by rw [hm.size];exact ((orderly_spec ho hj1).2.1 t hj2).1) (.inr (List.mem_range.2 hji)),← htv]
    ·have hno:∀ j∈List.range i,(l.toArray[j]?).bind (·.dst)≠some t:=fun j hj hd=>hex ⟨j,List.mem_range.1 hj,hd⟩
     rw [look_other _ _ hno] at htv
     rw [frameOf_other vs t _ a hno]
     exact hm.get t v (by rw [look_other _ _ (fun j hj=>hno j (List.mem_range.2 (hWi j hj)))];exact htv)
   ·intro t htl
    by_cases hex:∃ j,j<i∧(l.toArray[j]?).bind (·.dst)=some t
    ·obtain ⟨j,hji,hd⟩:=hex
     obtain ⟨oj,hj1,hj2⟩:=Option.bind_eq_some_iff.1 hd
     have hu:∀ k,(l.toArray[k]?).bind (·.dst)=some t→k=j:=by
      intro k hk
      obtain ⟨ok,hk1,hk2⟩:=Option.bind_eq_some_iff.1 hk
      exact ((orderly_spec ho hj1).2.1 t hj2).2 k ok hk1 hk2
     have hjW:j∈W:=by
      rcases hw3 j oj t hj1 hj2 htl with h | h | h
      ·exact hWo ▸ h
      ·omega
      ·have:=(orderly_spec ho hj1).1 i h;omega
     rw [frameOf_at vs t j hd hu _ a (by rw [hm.size];exact ((orderly_spec ho hj1).2.1 t hj2).1) (.inr (List.mem_range.2 hji))]
     have:=hm.get t _ (look_at hd hu W env (.inl hjW))
     rw [this]
    ·have hno:∀ j∈List.range i,(l.toArray[j]?).bind (·.dst)≠some t:=fun j hj hd=>hex ⟨j,List.mem_range.1 hj,hd⟩
     rw [frameOf_other vs t _ a hno]
  have hgv:∀ (j:Nat) (b:Bool),o.guard=some (j,b)→gval l.toArray (envR l.toArray sp xs (List.range i) env) j=gval l.toArray (envR l.toArray sp xs W env) j∧gunm l.toArray (envR l.toArray sp xs (List.range i) env) j b=gunm l.toArray (envR l.toArray sp xs W env) j b:=by
   intro j b hg
   unfold gval gunm
   cases hd:(l.toArray[j]?).bind (·.dst) with
   | none=>exact ⟨rfl,rfl⟩
   | some t =>
    have htl:t∈o.looksAt l.toArray:=by unfold Oper.looksAt;rw [hg];simp only [hd];exact List.mem_append.2 (.inr (by simp))
    simp only [Option.bind_some]
    have:look t (envR l.toArray sp xs (List.range i) env)=look t (envR l.toArray sp xs W env):=by
     by_cases hex:∃ j,j<i∧(l.toArray[j]?).bind (·.dst)=some t
     ·obtain ⟨j',hji,hd'⟩:=hex
      obtain ⟨oj,hj1,hj2⟩:=Option.bind_eq_some_iff.1 hd'
      have hu:∀ k,(l.toArray[k]?).bind (·.dst)=some t→k=j':=by
       intro k hk
       obtain ⟨ok,hk1,hk2⟩:=Option.bind_eq_some_iff.1 hk
       exact ((orderly_spec ho hj1).2.1 t hj2).2 k ok hk1 hk2
      have hjW:j'∈W:=by
       rcases hw3 j' oj t hj1 hj2 htl with h | h | h
       ·exact hWo ▸ h
       ·omega
       ·have:=(orderly_spec ho hj1).1 i h;omega
      rw [look_at hd' hu _ _ (.inl (List.mem_range.2 hji)),look_at hd' hu _ _ (.inl hjW)]
     ·have hno:∀ j∈List.range i,(l.toArray[j]?).bind (·.dst)≠some t:=fun j hj hd=>hex ⟨j,List.mem_range.1 hj,hd⟩
      rw [look_other _ _ hno,look_other _ _ (fun j hj=>hno j (List.mem_range.2 (hWi j hj)))]
    rw [this]
    exact ⟨rfl,rfl⟩
  rcases hq with ⟨hmet,hqt⟩ | ⟨hun,hsp⟩
  ·refine .inl ⟨?_,⟨fun a w hm H=>?_⟩⟩
   ·cases hg:o.guard with
    | none=>trivial
    | some p =>
     obtain ⟨j,b⟩:=p
     rw [hg] at hmet
     show gval _ _ j=some b
     rw [← (hgv j b hg).1]
     exact hmet
   ·obtain ⟨hm',hsame⟩:=key a hm
    have hwp:=hqt.run _ w hm' H
    have hsel:∀ cs b,o.op≠.select cs b:=by
     intro cs b
     have ho':=ho
     simp only [orderly,Bool.and_eq_true] at ho'
     exact Region.noSelect_spec ho'.1 i o cs b hio
    have hex:execOp (frameOf l.toArray vs (List.range i) a).eval o=execOp a.eval o:=by
     refine execOp_congr o hsel (fun x hx=>?_)
     cases x with
     | tmp t =>
      have:=hsame t (by unfold Oper.looksAt;exact List.mem_append.2 (.inl (List.mem_filterMap.2 ⟨_,Array.mem_toList_iff.2 hx,rfl⟩)))
      simp only [Act.eval,Array.getD_eq_getD_getElem?,this]
     | const v=>rfl
     | global g=>rfl
     | func f=>rfl
    unfold Oper.wp at hwp ⊢
    rw [hex] at hwp
    refine upon_imp hwp ?_ ?_
    ·rintro v w' ⟨u,h1,h2,h3,h4⟩
     have hu:=put_value (o:=o) (n:=n) (fun d hd=>((orderly_spec ho hio).2.1 d hd).1) (by rw [frameOf_size];exact hm.size) h1 h2
     refine ⟨u,?_,h2,h3,h4⟩
     cases hd:o.dst with
     | none=>rfl
     | some d =>
      rw [hd] at h1
      have h5:=congrArg (fun x:Act=>x.tmps[d]?) h1
      have hdn:d<(frameOf l.toArray vs (List.range i) a).tmps.size:=by rw [frameOf_size,hm.size];exact ((orderly_spec ho hio).2.1 d hd).1
      simp only [put_getElem_same hdn,Option.some.injEq] at h5
      rw [h5]
    ·rintro d w' ⟨u,h1,_⟩
     have h5:=congrArg Act.defers h1
     rw [put_defs,put_defs] at h5
     have h6:=congrArg List.length h5
     simp at h6
  ·refine .inr ⟨?_,hsp⟩
   cases hg:o.guard with
   | none=>rw [hg] at hun;exact hun.elim
   | some p =>
    obtain ⟨j,b⟩:=p
    rw [hg] at hun
    show gunm _ _ j b=true
    rw [← (hgv j b hg).2]
    exact hun
theorem VC_drawV {id:Nat} {l:List Oper} (m:Nat) (Ws Cs:List (List Nat)) (hmix:P.follows .mixedOrders=true)
 (hok:(orderly l.toArray n&&tablesOk l.toArray m Ws Cs&&Nat.ble m l.length)=true)
 (hq:quietsV P n S w0 l.toArray L (fun env=>VL P n S w0 l.toArray (QN Q) (l.drop m) env L) (l.take m) env) :
 VC P n S w0 (.region id l.toArray true) Q env L:=by
 simp only [Bool.and_eq_true] at hok
 obtain ⟨⟨ho,ht⟩,hml⟩:=hok
 have hml':=Nat.le_of_ble_eq_true hml
 obtain ⟨fs,hfl,hF,hqs⟩:=quietsV_spec (env0:=env) (l.take m) [] (fun i o hi=>by
  rw [List.getElem?_take] at hi
  split at hi
  ·simpa using hi
  ·cases hi) hq
 have hfm:fs.length=m:=by rw [hfl,List.length_take];omega
 simp only [List.nil_append,List.length_nil,Nat.zero_add] at hF hqs
 have hcur:∀ (xs:Nat→Value) (j:Nat),((spAt (valsOf fs) j).at xs).cur (xs j)=fs.getD j undef:=fun xs j=>by rw [spAt_vals];rfl
 have henv:∀ (xs:Nat→Value) (W:List Nat) (e:Env),envR l.toArray (valsOf fs) xs W e=envR l.toArray (valsOf fs) (fun _=>undef) W e:=by
  intro xs W
  induction W with
  | nil=>intro e;rfl
  | cons j W ih =>
   intro e
   unfold envR
   rw [hcur xs j,show (((spAt (valsOf fs) j).at fun _=>undef).cur undef)=fs.getD j undef from hcur (fun _=>undef) j]
   exact ih _
 refine VC_drawG m (valsOf fs) Ws Cs hmix (by simp only [Bool.and_eq_true,beq_iff_eq];exact ⟨⟨⟨ho,ht⟩,by simp [valsOf,hfm]⟩,hml⟩) ?_ (fun i C _ j hj=>by rw [spAt_vals] at hj;cases hj) ?_
 ·intro i o C hi hC xs hx
  rw [spAt_vals,henv,resR_vals,List.nil_append]
  exact hqs i o hi
 ·intro xs _
  rw [henv,resR_vals,List.nil_append]
  rw [hfm] at hF
  exact hF
abbrev Ak:=List (Nat × List Nat × ((Nat→Value)→Value→Prop) × ((Nat→Value)→Value→List Res))
def factsA (C:List Nat) (xs:Nat→Value):Ak→Prop
 | []=>True
 | (j,Cj,F,_)::r=>(C.contains j=true→F (mask Cj xs) (xs j))∧factsA C xs r
def resA (C:List Nat) (xs:Nat→Value):Ak→List Res
 | []=>[]
 | (j,Cj,_,N)::r=>match C.contains j with
  | true=>N (mask Cj xs) (xs j)++resA C xs r
  | false=>resA C xs r
def factsT (xs:Nat→Value):Ak→Prop
 | []=>True
 | (j,Cj,F,_)::r=>F (mask Cj xs) (xs j)∧factsT xs r
def resT (xs:Nat→Value):Ak→List Res
 | []=>[]
 | (j,Cj,_,N)::r=>N (mask Cj xs) (xs j)++resT xs r
def SpX.ak (k:Nat):SpX→Ak
 | .val _ _=>[]
 | .any C F N=>[(k,C,F,N)]
def akOf:Nat→List SpX→Ak
 | _,[]=>[]
 | k,s::r=>s.ak k++akOf (k+1) r
def quietsM (P:Program) (n:Nat) (S:List Nat) (w0:World) (ops:Array Oper) (L:List Res) (F:((Nat→Value)→Env)→Ak→Prop):Nat→List Oper→List (List Nat)→((Nat→Value)→Env)→Ak→Prop
 | k,o::r,C::Cs,E,A=>∃ s:SpX,(s.cl.all fun j=>C.contains j)=true∧(∀ xs:Nat→Value,factsA C xs A→QG P n S w0 ops o (E xs) (resA C xs A++L) (s.at xs))∧quietsM P n S w0 ops L F (k+1) r Cs (fun xs=>ext o.dst ((s.at xs).cur (xs k)) (E xs)) (A++s.ak k)
 | _,[],_,E,A=>F E A
 | _,_,_,_,_=>False
theorem akOf_append:∀ (a b:List SpX) (k:Nat),akOf k (a++b)=akOf k a++akOf (k+a.length) b
 | [],b,k=>by simp [akOf]
 | s::a,b,k=>by
  show s.ak k++akOf (k+1) (a++b)=s.ak k++akOf (k+1) a++akOf _ b
  rw [akOf_append a b (k+1),List.append_assoc,show k+1+a.length=k+(s::a).length by simp;omega]
theorem factsA_of {C:List Nat} {xs:Nat→Value}:∀ (sp:List SpX) (k:Nat),(∀ j,k≤j→j<k+sp.length→C.contains j=true→((spAt sp (j-k)).at xs).fact (xs j))→factsA C xs (akOf k sp)
 | [],k,_=>trivial
 | s::r,k,h=>by
  have ih:=factsA_of (xs:=xs) (C:=C) r (k+1) (fun j h1 h2 hc=>by
   have:=h j (by omega) (by simp;omega) hc
   rw [show j-k=(j-(k+1))+1 by omega] at this
   exact this)
  cases s with
  | val Cf f=>exact ih
  | any Cf F N=>exact ⟨fun hc=>by have:=h k (Nat.le_refl _) (by simp) hc;rw [Nat.sub_self] at this;exact this,ih⟩
theorem factsT_of {xs:Nat→Value}:∀ (sp:List SpX) (k:Nat),(∀ j,k≤j→j<k+sp.length→((spAt sp (j-k)).at xs).fact (xs j))→factsT xs (akOf k sp)
 | [],k,_=>trivial
 | s::r,k,h=>by
  have ih:=factsT_of (xs:=xs) r (k+1) (fun j h1 h2=>by
   have:=h j (by omega) (by simp;omega)
   rw [show j-k=(j-(k+1))+1 by omega] at this
   exact this)
  cases s with
  | val Cf f=>exact ih
  | any Cf F N=>exact ⟨by have:=h k (Nat.le_refl _) (by simp);rw [Nat.sub_self] at this;exact this,ih⟩
theorem resA_of (C:List Nat) (xs:Nat→Value):∀ (sp:List SpX) (k:Nat),resR xs (fun j=>C.contains j) k sp=resA C xs (akOf k sp)
 | [],k=>rfl
 | s::r,k=>by
  have ih:=resA_of C xs r (k+1)
  unfold resR
  cases s with
  | val Cf f =>
   show (match C.contains k with | true=>[]++resR xs (fun j=>C.contains j) (k+1) r | false=>resR xs (fun j=>C.contains j) (k+1) r)=resA C xs (akOf (k+1) r)
   rw [ih]
   cases C.contains k<;>rfl
  | any Cf F N =>
   show (match C.contains k with | true=>N (mask Cf xs) (xs k)++resR xs (fun j=>C.contains j) (k+1) r | false=>resR xs (fun j=>C.contains j) (k+1) r)=(match C.contains k with | true=>N (mask Cf xs) (xs k)++resA C xs (akOf (k+1) r) | false=>resA C xs (akOf (k+1) r))
   rw [ih]
theorem resT_of (xs:Nat→Value):∀ (sp:List SpX) (k:Nat),resR xs (fun _=>true) k sp=resT xs (akOf k sp)
 | [],k=>rfl
 | s::r,k=>by
  have ih:=resT_of xs r (k+1)
  unfold resR
  cases s with
  | val Cf f=>exact ih
  | any Cf F N =>
   show N (mask Cf xs) (xs k)++resR xs (fun _=>true) (k+1) r=N (mask Cf xs) (xs k)++resT xs (akOf (k+1) r)
   rw [ih]
theorem quietsM_spec {ops:Array Oper} {F:((Nat→Value)→Env)→Ak→Prop} {env0:Env}:∀ (r:List Oper) (Cs:List (List Nat)) (acc:List SpX),(∀ i o,r[i]?=some o→ops[acc.length+i]?=some o)→(∀ (i:Nat) (C:List Nat),Cs[i]?=some C→∀ j∈C,j<acc.length+i)→Cs.length≤r.length →
 quietsM P n S w0 ops L F acc.length r Cs (fun xs=>envR ops acc xs (List.range acc.length) env0) (akOf 0 acc) →
 ∃ t:List SpX,t.length=r.length∧F (fun xs=>envR ops (acc++t) xs (List.range (acc++t).length) env0) (akOf 0 (acc++t))∧(∀ (i:Nat) (C:List Nat),Cs[i]?=some C→∀ j∈(spAt (acc++t) (acc.length+i)).cl,j∈C) ∧
  ∀ i o C,r[i]?=some o→Cs[i]?=some C→∀ xs:Nat→Value,(∀ j∈C,((spAt (acc++t) j).at xs).fact (xs j))→QG P n S w0 ops o (envR ops (acc++t) xs (List.range (acc.length+i)) env0) (resR xs (fun j=>C.contains j) 0 (acc++t)++L) ((spAt (acc++t) (acc.length+i)).at xs)
 | [],Cs,acc,_,_,hlen,h=>by
  refine ⟨[],rfl,by unfold quietsM at h;simpa using h,?_,?_⟩
  ·intro i C hC
   have:Cs=[]:=List.eq_nil_of_length_eq_zero (by simpa using hlen)
   subst this
   simp at hC
  ·intro i o C hi
   simp at hi
 | o::r,[],acc,hat,hcs,_,h=>by unfold quietsM at h;exact h.elim
 | o::r,C::Cs,acc,hat,hcs,hlen,h=>by
  obtain ⟨s,h0,h1,h2⟩:=h
  have hap:∀ (sp:List SpX) (xs:Nat→Value) (l m:List Nat) (e:Env),envR ops sp xs (l++m) e=envR ops sp xs m (envR ops sp xs l e):=by
   intro sp xs l
   induction l with
   | nil=>intro m e;rfl
   | cons j l ih=>intro m e;exact ih m _
  have hE:(fun xs=>ext o.dst ((s.at xs).cur (xs acc.length)) (envR ops acc xs (List.range acc.length) env0))=fun xs=>envR ops (acc++[s]) xs (List.range (acc++[s]).length) env0:=by
   funext xs
   rw [show (acc++[s]).length=acc.length+1 by simp,List.range_succ,hap,envR_left acc [s] (List.range acc.length) env0 (fun j hj=>List.mem_range.1 hj)]
   show _=ext ((ops[acc.length]?).bind (·.dst)) (((spAt (acc++[s]) acc.length).at xs).cur (xs acc.length)) _
   have h0:=hat 0 o rfl
   rw [Nat.add_zero] at h0
   rw [h0,spAt_last]
   rfl
  have hA:akOf 0 acc++s.ak acc.length=akOf 0 (acc++[s]):=by
   rw [akOf_append,Nat.zero_add]
   simp [akOf]
  rw [hE,hA,show acc.length+1=(acc++[s]).length by simp] at h2
  obtain ⟨t,ht1,ht2,ht4,ht3⟩:=quietsM_spec r Cs (acc++[s]) (fun i o' hi=>by
   have:=hat (i+1) o' (by simpa using hi)
   rwa [show (acc++[s]).length+i=acc.length+(i+1) by simp;omega]) (fun i C' hC' j hj=>by have:=hcs (i+1) C' (by simpa using hC') j hj;simp;omega) (by simpa using hlen) h2
  have e:acc++[s]++t=acc++s::t:=by simp
  rw [e] at ht2 ht3 ht4
  refine ⟨s::t,by simp [ht1],ht2,?_,?_⟩
  ·intro i C' hC' j hj
   cases i with
   | zero =>
    simp only [List.getElem?_cons_zero,Option.some.injEq] at hC'
    subst hC'
    rw [Nat.add_zero,spAt_last] at hj
    simpa using List.all_eq_true.1 h0 j hj
   | succ i=>exact ht4 i C' (by simpa using hC') j (by rwa [show (acc++[s]).length+i=acc.length+(i+1) by simp;omega])
  intro i o' C' hi hC' xs hx
  cases i with
  | zero =>
   simp only [List.getElem?_cons_zero,Option.some.injEq] at hi hC'
   subst hi
   subst hC'
   have hC0:∀ j∈C,j<acc.length:=fun j hj=>by simpa using hcs 0 C rfl j hj
   rw [Nat.add_zero,spAt_last,envR_left acc (s::t) _ env0 (fun j hj=>List.mem_range.1 hj),resR_left acc (s::t) 0 (fun j hj=>by
    cases hb:C.contains j with
    | false=>rfl
    | true=>have:=hC0 j (by simpa using hb);omega),resA_of]
   refine h1 xs (factsA_of acc 0 (fun j _ hj hc=>?_))
   have:=hx j (by simpa using hc)
   rw [spAt_left acc (s::t) j (by omega)] at this
   simpa using this
  | succ i =>
   have:=ht3 i o' C' (by simpa using hi) (by simpa using hC') xs hx
   rwa [show (acc++[s]).length+i=acc.length+(i+1) by simp;omega] at this
theorem VC_drawM {id:Nat} {l:List Oper} (m:Nat) (Ws Cs:List (List Nat)) (hmix:P.follows .mixedOrders=true)
 (hok:(orderly l.toArray n&&tablesOk l.toArray m Ws Cs&&Nat.ble m l.length)=true)
 (hq:quietsM P n S w0 l.toArray L (fun E A=>∀ xs:Nat→Value,factsT xs A→VL P n S w0 l.toArray (QN Q) (l.drop m) (E xs) (resT xs A++L)) 0 (l.take m) (Cs.take m) (fun _=>env) []) :
 VC P n S w0 (.region id l.toArray true) Q env L:=by
 simp only [Bool.and_eq_true] at hok
 obtain ⟨⟨ho,ht⟩,hml⟩:=hok
 have hml':=Nat.le_of_ble_eq_true hml
 have hsz:Ws.length=l.length∧Cs.length=l.length:=by
  have ht':=ht
  simp only [tablesOk,Bool.and_eq_true,beq_iff_eq] at ht'
  exact ⟨by simpa using ht'.1.1,by simpa using ht'.1.2⟩
 have hC:∀ (i:Nat) (C:List Nat),Cs[i]?=some C→∀ j∈C,j<i:=by
  intro i C hC j hj
  have hil:i<l.length:=by have:=(List.getElem?_eq_some_iff.1 hC).1;omega
  have ht':=ht
  simp only [tablesOk,Bool.and_eq_true,List.all_eq_true,List.mem_range] at ht'
  have hh:=ht'.2 i (by simpa using hil)
  have hio:l.toArray[i]?=some (l[i]'hil):=by simp [hil]
  have hWi:Ws[i]?=some (Ws[i]'(by omega)):=List.getElem?_eq_getElem (by omega)
  rw [hio,hWi,hC] at hh
  simp only [Bool.and_eq_true,List.all_eq_true] at hh
  exact Nat.le_of_ble_eq_true (hh.1.1.1.1 j hj)
 have htk:∀ (i:Nat) (C:List Nat),(Cs.take m)[i]?=some C→i<m∧Cs[i]?=some C:=by
  intro i C h
  rw [List.getElem?_take] at h
  split at h
  ·rename_i h1;exact ⟨h1,h⟩
  ·cases h
 obtain ⟨sp,h1,h2,h4,h3⟩:=quietsM_spec (env0:=env) (l.take m) (Cs.take m) [] (fun i o hi=>by
  rw [List.getElem?_take] at hi
  split at hi
  ·simpa using hi
  ·cases hi) (fun i C h j hj=>by simpa using hC i C (htk i C h).2 j hj) (by rw [List.length_take,List.length_take];omega) hq
 simp only [List.nil_append,List.length_nil,Nat.zero_add] at h2 h3 h4
 have hl:sp.length=m:=by rw [h1,List.length_take];omega
 refine VC_drawG m sp Ws Cs hmix (by simp only [Bool.and_eq_true,beq_iff_eq];exact ⟨⟨⟨ho,ht⟩,hl⟩,hml⟩) (fun i o C hi hC xs hx=>h3 i o C hi (by
  have him:i<m:=by
   have:=(List.getElem?_eq_some_iff.1 hi).1
   rw [List.length_take] at this
   omega
  rw [List.getElem?_take,if_pos him];exact hC) xs hx) (fun i C hC j hj=>by
  by_cases him:i<m
  ·exact h4 i C (by rw [List.getElem?_take,if_pos him];exact hC) j hj
  ·rw [spAt_of_le sp i (by omega)] at hj;cases hj) ?_
 intro xs hx
 have:=h2 xs (factsT_of sp 0 (fun j _ hj=>by simpa using hx j (by omega)))
 rw [hl] at this
 rw [resT_of]
 exact this
end
section
variable {P : Program} {w : World} {Q : Exit → Act → World → Prop} {a : Act} {dst : Option Tmp} {ty : TypeId} {pos : String} {af : Array Edge} {g : Option (Nat × Bool)}
theorem opw_build {K:Act→World→Prop} {t:TypeId} {pr:Array (Nat × Operand)} {c':List Value} (parts:List (Nat × Value)) (hp:(pr.toList.map fun p=>(p.1,a.eval p.2))=parts) (hb:P.built t parts=some c'.toArray)
 (h:K (a.put dst (.agg c'.toArray)) w):Oper.wp P { dst,op:=.build t pr,type:=ty,pos,after:=af,guard:=g } a w K Q:=by
 have e:(pr.map fun p=>(p.1,a.eval p.2)).toList=parts:=by rw [← hp];simp
 exact opw_val (v:=.agg c'.toArray) (w':=w) (by simp [execOp,run_build w t (pr.map fun p=>(p.1,a.eval p.2)) c'.toArray (by rw [e];exact hb)]) h
theorem opw_allocZ {K:Act→World→Prop} {e:TypeId} {z:Value} {S:List Nat} {w0:World} {L:List Res} (H:St S w0 L w) (hi:(P.info? e).map (·.zero)=some (some z))
 (h:∀ w' b,St S w0 (.blk b e z.cells.toList::L) w'→K (a.put dst (.pointer (some ⟨b,0,none⟩))) w'):Oper.wp P { dst,op:=.alloc e,type:=ty,pos,after:=af,guard:=g } a w K Q:=by
 cases hq:P.info? e with
 | none=>rw [hq] at hi;simp at hi
 | some i =>
  have hz:i.zero=some z:=by rw [hq] at hi;simpa using hi
  exact opw_alloc H hq hz (fun w' b H'=>h w' b ⟨H'.kept,fun r hr=>H'.ok r (by simpa [or_comm] using hr),fun r hr=>H'.new r (by simpa [or_comm] using hr),(List.perm_append_comm (l₁:=L) (l₂:=[Res.blk b e z.cells.toList])).pairwise H'.apart (fun {r s} hrs b' hb hs=>hrs b' hs hb)⟩)
theorem splice_all {c vs:List Value} (h:c.length=vs.length):splice c 0 vs=vs:=by
 simp only [splice,List.take_zero,List.nil_append,Nat.zero_add]
 rw [List.drop_eq_nil_of_le (by omega),List.append_nil]
end
end Go.PBYtfpdnpppcoomnaaGreat

namespace Go.PBYtfpdnpppcoomnaaGreat
open Go Go.RowKit
def pickK (env : Env) : List Tmp → Option Env
  | [] => some []
  | k :: r => match look k env with
    | some v => match pickK env r with
      | some E => some ((k, v) :: E)
      | none => none
    | none => none
theorem kp {env : Env} : ∀ (ks : List Tmp) {E : Env}, pickK env ks = some E → Sub env E
  | [], E, h => by obtain rfl := Option.some.inj h; exact Sub.nil _
  | k :: r, E, h => by
    unfold pickK at h
    cases hk : look k env with
    | none => rw [hk] at h; cases h
    | some v =>
      rw [hk] at h
      cases hr : pickK env r with
      | none => rw [hr] at h; cases h
      | some E' =>
        rw [hr] at h
        obtain rfl := Option.some.inj h
        exact Sub.cons hk (kp r hr)
end Go.PBYtfpdnpppcoomnaaGreat
namespace Go.Proofs.YtfpdnpppcoomnaaGreat
def U2 := @Tryz.underlying2
def U3 := @Tryz.underlying3
def U4 := @Tryz.underlying4
def U5 := @Tryz.underlying5
def U9 := @Tryz.underlying9
def U22 := @Tryz.underlying22
def U23 := @Tryz.underlying23
def U25 := @Tryz.underlying25
def U26 := @Tryz.underlying26
def U28 := @Tryz.underlying28
def U29 := @Tryz.underlying29
def U33 := @Tryz.underlying33
def U35 := @Tryz.underlying35
def U37 := @Tryz.underlying37
def U46 := @Tryz.underlying46
def U50 := @Tryz.underlying50
def U60 := @Tryz.underlying60
def U63 := @Tryz.underlying63
def U65 := @Tryz.underlying65
def U71 := @Tryz.underlying71
def U72 := @Tryz.underlying72
def U78 := @Tryz.underlying78
def U83 := @Tryz.underlying83
def U91 := @Tryz.underlying91
def U114 := @Tryz.underlying114
def U118 := @Tryz.underlying118
def U120 := @Tryz.underlying120
def U127 := @Tryz.underlying127
def U138 := @Tryz.underlying138
def U139 := @Tryz.underlying139
def U141 := @Tryz.underlying141
def U143 := @Tryz.underlying143
def U163 := @Tryz.underlying163
def U164 := @Tryz.underlying164
def U167 := @Tryz.underlying167
def U168 := @Tryz.underlying168
def U175 := @Tryz.underlying175
def U179 := @Tryz.underlying179
def U184 := @Tryz.underlying184
def U189 := @Tryz.underlying189
def U196 := @Tryz.underlying196
def U201 := @Tryz.underlying201
def U202 := @Tryz.underlying202
def U205 := @Tryz.underlying205
def U208 := @Tryz.underlying208
def U211 := @Tryz.underlying211
def U218 := @Tryz.underlying218
def U220 := @Tryz.underlying220
def U227 := @Tryz.underlying227
def U234 := @Tryz.underlying234
def U235 := @Tryz.underlying235
def U239 := @Tryz.underlying239
def U243 := @Tryz.underlying243
def F0 := @Tryz.func0
def F3 := @Tryz.func3
def F4 := @Tryz.func4
def F5 := @Tryz.func5
def F6 := @Tryz.func6
def F7 := @Tryz.func7
def F8 := @Tryz.func8
def F9 := @Tryz.func9
def F10 := @Tryz.func10
def F11 := @Tryz.func11
def F12 := @Tryz.func12
def F13 := @Tryz.func13
def F14 := @Tryz.func14
def F15 := @Tryz.func15
def F16 := @Tryz.func16
def F17 := @Tryz.func17
def F18 := @Tryz.func18
def F19 := @Tryz.func19
def F20 := @Tryz.func20
def F21 := @Tryz.func21
def F22 := @Tryz.func22
def F23 := @Tryz.func23
def F24 := @Tryz.func24
def F25 := @Tryz.func25
def F26 := @Tryz.func26
def F27 := @Tryz.func27
def F28 := @Tryz.func28
def F29 := @Tryz.func29
def F30 := @Tryz.func30
def F31 := @Tryz.func31
def F32 := @Tryz.func32
def F33 := @Tryz.func33
def F34 := @Tryz.func34
def F35 := @Tryz.func35
def F36 := @Tryz.func36
def F37 := @Tryz.func37
def F38 := @Tryz.func38
def F39 := @Tryz.func39
def F40 := @Tryz.func40
def F41 := @Tryz.func41
def F42 := @Tryz.func42
def F43 := @Tryz.func43
def F44 := @Tryz.func44
def F45 := @Tryz.func45
def F46 := @Tryz.func46
def F47 := @Tryz.func47
def F48 := @Tryz.func48
def F49 := @Tryz.func49
def F50 := @Tryz.func50
def F51 := @Tryz.func51
def F52 := @Tryz.func52
def F53 := @Tryz.func53
def F54 := @Tryz.func54
def F55 := @Tryz.func55
def F56 := @Tryz.func56
def F57 := @Tryz.func57
def F58 := @Tryz.func58
def F59 := @Tryz.func59
def F60 := @Tryz.func60
def F61 := @Tryz.func61
def F62 := @Tryz.func62
def F63 := @Tryz.func63
def F64 := @Tryz.func64
def F65 := @Tryz.func65
def F66 := @Tryz.func66
def F67 := @Tryz.func67
def F68 := @Tryz.func68
def F69 := @Tryz.func69
def F70 := @Tryz.func70
def F71 := @Tryz.func71
def F72 := @Tryz.func72
def F73 := @Tryz.func73
def F74 := @Tryz.func74
def F75 := @Tryz.func75
def F76 := @Tryz.func76
def F77 := @Tryz.func77
def F78 := @Tryz.func78
def F79 := @Tryz.func79
def F80 := @Tryz.func80
def F81 := @Tryz.func81
def F82 := @Tryz.func82
def F83 := @Tryz.func83
def F84 := @Tryz.func84
def F85 := @Tryz.func85
def F86 := @Tryz.func86
def F87 := @Tryz.func87
def F88 := @Tryz.func88
def F89 := @Tryz.func89
def F90 := @Tryz.func90
def F91 := @Tryz.func91
def F92 := @Tryz.func92
def F93 := @Tryz.func93
def F94 := @Tryz.func94
def F95 := @Tryz.func95
def F96 := @Tryz.func96
def F97 := @Tryz.func97
def F98 := @Tryz.func98
def F99 := @Tryz.func99
def F100 := @Tryz.func100
def F101 := @Tryz.func101
def F102 := @Tryz.func102
def F103 := @Tryz.func103
def F104 := @Tryz.func104
def F105 := @Tryz.func105
def F106 := @Tryz.func106
def F107 := @Tryz.func107
def F108 := @Tryz.func108
def F109 := @Tryz.func109
def F110 := @Tryz.func110
def F111 := @Tryz.func111
def F112 := @Tryz.func112
def F113 := @Tryz.func113
def F114 := @Tryz.func114
def F115 := @Tryz.func115
def F116 := @Tryz.func116
def F117 := @Tryz.func117
def F118 := @Tryz.func118
def F119 := @Tryz.func119
def F120 := @Tryz.func120
def F121 := @Tryz.func121
def F122 := @Tryz.func122
def F123 := @Tryz.func123
def F124 := @Tryz.func124
def F125 := @Tryz.func125
def F126 := @Tryz.func126
def F127 := @Tryz.func127
def F128 := @Tryz.func128
def F131 := @Tryz.func131
def F133 := @Tryz.func133
def F134 := @Tryz.func134
def F135 := @Tryz.func135
def F136 := @Tryz.func136
def F138 := @Tryz.func138
def F139 := @Tryz.func139
end Go.Proofs.YtfpdnpppcoomnaaGreat
