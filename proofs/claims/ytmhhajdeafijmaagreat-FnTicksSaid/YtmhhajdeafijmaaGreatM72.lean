/-
  That the program and the reference answer alike, in plain terms, and that the laws answer true.
-/
import Derived.Test.YtmhhajdeafijmaaGreatM70
namespace Go.Proofs.YtmhhajdeafijmaaGreat
open Go.RowKit
set_option linter.unusedVariables false
set_option linter.unusedSimpArgs false
set_option maxRecDepth 100000
set_option maxHeartbeats 3200000
noncomputable section
theorem Av7 {c:Af} {k:Int} {p:List YB} {c':Af} {f:Aa} (h:ChS c k p c' f 0):Bd c'=true∧c'.1=c.1∧Bl c'=Bl c∧Bg f=true∧Fg (Sf c' f)=true∧Ar c'=Ar c∧As f≤Ar c+p.length+32∧f.2.2.2.1=c.2.1:=by
 obtain⟨e',G1,q2,q3,q4,q5⟩:=h
 obtain⟨w1,w2,w3,w4,w5,w6⟩:=q5 rfl
 have s3:=Ri w6
 rw[←w5]at s3
 exact⟨w2,by rw[G1];rfl,by rw[G1];rfl,s3,Azr w2,q2,q3,by rw[w5];exact Av1 w6⟩
theorem A45 (c:Af) (h:Ar c≤67000000):
  Tot (fun r=>r.2.2.1=0→Bd r.1=true∧r.1.1=c.1∧Bl r.1=Bl c∧Bg r.2.1=true∧Fg (Sf r.1 r.2.1)=true∧Ar r.1=Ar c∧As r.2.1≤Ar c+36) (Lj c):=by
 have hc:=h
 have hl:=Abz (IntKind.i64.wrap (c.2.2.1+1))
 simp only[Ar]at hc
 unfold Lj Zs
 simp only[Ag,Ai,Ad]
 rw[Me c zq0,Lm c zq7 zq8]
 simp only[Aj]
 refine Ax (fun _=>Ak fun e=>by cases e) (fun _=>?_)
 refine Ax (fun _=>Ak fun e=>by cases e) (fun _=>?_)
 rw[A1y,Aj]
 obtain⟨c',f,z,h1,h2,h3⟩:=Ad0 c 7 (Ce (IntKind.i64.wrap (c.2.2.1+1))) zq0
 rw[h1,Aj]
 refine Ak fun e=>?_
 dsimp only at e ⊢
 subst e
 obtain⟨a1,a2,a3,a4,a5,a6,a7,_⟩:=Av7 h3
 exact⟨a1,a2,a3,a4,a5,a6,by omega⟩
theorem Bcc (c:Af) (h:Ar c≤60000000):
  Tot (fun r=>Ar r.1≤Ar c+32∧(r.2.1=true→Bd r.1=true∧r.1.1=0∧(Bl r.1).length=32)) (Ap5 c):=by
 have hc:=h
 simp only[Ar]at hc
 unfold Ap5 Apx
 simp only[Ag,Ai,Ad]
 rw[Me c zq0,Lm c zq7 zq8,Avy]
 simp only[Aj]
 refine Ax (fun _=>Ak ⟨Nat.le_add_right _ _,fun e=>by cases e⟩) (fun ho=>?_)
 refine Ax (fun _=>Ak ⟨Nat.le_add_right _ _,fun e=>by cases e⟩) (fun hr=>?_)
 refine Ax (fun _=>Ak ⟨Nat.le_add_right _ _,fun e=>by cases e⟩) (fun hx=>?_)
 refine Ax (fun _=>Ak ⟨Nat.le_add_right _ _,fun e=>by cases e⟩) (fun hs=>?_)
 have ho:Bd c=true:=by simpa using ho
 have hr:=bne_eq_false_iff_eq.1 hr
 have hs:=ne_of_beq_false hs
 obtain⟨f1,f2,f3,f4,_⟩:=Ff ho
 obtain⟨k1,k2,_⟩:=Ec f3
 have hd:(B0 c.2.2.2.1 Ct).length=32:=Tg zq4 (by have:c.2.2.2.1.length=32:=k2;omega)
 refine Ak ⟨?_,fun _=>⟨?_,hr,hd⟩⟩
 ·simp only[Ar];omega
 ·have k1':(Gj c).1=c.2.2.1:=rfl
  exact Amd (c:=(c.1,c.2.1,c.2.2.1,c.2.2.2.1,c.2.2.2.2.1,c.2.2.2.2.2.1,c.2.2.2.2.2.2.1,c.2.2.2.2.2.2.2.1,c.2.2.2.2.2.2.2.2.1,c.2.2.2.2.2.2.2.2.2.1,c.2.2.2.2.2.2.2.2.2.2.1,c.2.2.2.2.2.2.2.2.2.2.2.1,c.2.2.2.2.2.2.2.2.2.2.2.2.1,c.2.2.2.2.2.2.2.2.2.2.2.2.2.1,B0 c.2.2.2.1 Ct,())) (.inl hr) zq2 f3 f4 (.inr ⟨hr,hd,by dsimp only;omega⟩)
theorem A46 (c:Af) (n:YI) (h:Ar c≤67000000) (ho:Bd c=true):Tot (fun c'=>Ar c'≤Ar c∧Bd c'=true∧c'.1=c.1∧Bl c'=Bl c∧c'.2.1=c.2.1) (Aae c n):=by
 have hc:=h
 simp only[Ar]at hc
 have same:Tot (fun c'=>Ar c'≤Ar c∧Bd c'=true∧c'.1=c.1∧Bl c'=Bl c∧c'.2.1=c.2.1) (some c):=Ak ⟨Nat.le_refl _,ho,rfl,rfl,rfl⟩
 unfold Aae Zg
 simp only[Ag,Ai,Ad]
 rw[Me c zq0,Lm c zq7 zq8,Br]
 simp only[Aj]
 refine Ax (fun _=>?_) (fun _=>same)
 refine Ax (fun _=>?_) (fun _=>same)
 refine Ax (fun _=>?_) (fun _=>same)
 refine Ax (fun _=>?_) (fun _=>same)
 refine Ax (fun _=>?_) (fun _=>same)
 refine Ak ⟨by simp only[Ar,List.length_nil];omega,?_,rfl,rfl,rfl⟩
 have e1:Hu ((c.1,c.2.1,c.2.2.1,c.2.2.2.1,c.2.2.2.2.1,c.2.2.2.2.2.1,c.2.2.2.2.2.2.1,(0:Int),([]:List YB),(0:Int),(0:Int),([]:List YI),false,(0:Int),c.2.2.2.2.2.2.2.2.2.2.2.2.2.2.1,()):Af)=true:=rfl
 unfold Bd at ho ⊢
 rw[e1]
 simp only[Bool.and_eq_true]at ho ⊢
 exact⟨ho.1,ho.2.1,ho.2.2.1,rfl,ho.2.2.2.2⟩
theorem A7l {x0:Int} {x1:(List YB)} {x2:Int} {x3:Int} {x4:Int} {x5:(List YB)} {x6:Int} {x7:Int} {x8:(List YB)} {x9:(List YB)} {x10:Int} {x11:(List YB)} {x12:(List YB)} {x13:Int} {x14:Int} {x15:(List YB)} {x16:(List YB)} {x17:Int} {x18:(List YB)} {x19:Int} {x20:(List YB)} {x21:Int} {x22:Int} {x23:(List YI)} {x24:Int} {x25:(List YB)} {x26:Int} {x27:Int} {x28:(List YI)} {x29:Bool} {x30:Int} {x31:(List YB)} {x32:Bool} {x33:Int} {x34:Int} {x35:Int} {x36:Bool} {x37:Int} {x38:Int} {x39:Int} {x40:Int} {t:A9} (h:A0 (x0,x1,x2,x3,x4,x5,x6,x7,x8,x9,x10,x11,x12,x13,x14,x15,x16,x17,x18,x19,x20,x21,x22,x23,x24,x25,x26,x27,x28,x29,x30,x31,x32,x33,x34,x35,x36,x37,x38,x39,x40,())=true) (hs:x4=1∨x4=2) (ht:t.1=true∧Bp t=true):A0 (x0,x1,x2,x3,x4,x5,x6,x7,x8,x9,x10,x11,x12,x13,x14,x15,x16,x17,x18,x19,x20,x21,x22,x23,x24,x25,x26,x27,x28,x29,x30,x31,t.1,t.2.1,t.2.2.1,t.2.2.2.1,x36,x37,x38,x39,x40,())=true:=by
 exact Am6 (c:=(x0,x1,x2,x3,x4,x5,x6,x7,x8,x9,x10,x11,x12,x13,x14,x15,x16,x17,x18,x19,x20,x21,x22,x23,x24,x25,x26,x27,x28,x29,x30,x31,x32,x33,x34,x35,x36,x37,x38,x39,x40,())) (t:=t) h hs ht
theorem Bcd {c:Ab} (h:A0 c=true) (hs:c.2.2.2.2.1=2):Bg (Cr c)=true:=by
 unfold A0 at h
 rw[hs]at h
 simp only[show((2:Int)==0)=false by decide,show((2:Int)==1)=false by decide,show((2:Int)==2)=true by decide,cond_false,cond_true,Bool.and_eq_true,beq_iff_eq]at h
 exact h.2.2.2.1.2.2.1
theorem Bdo {c:Ab} (h:A0 c=true) (hs:c.2.2.2.2.1=1∨c.2.2.2.2.1=2):(clT c).1=true∧Bp (clT c)=true∧c.2.2.2.2.2.1.length=12:=by
 unfold A0 at h
 rcases hs with hs|hs<;>rw[hs]at h
 ·simp only[show((1:Int)==0)=false by decide,show((1:Int)==1)=true by decide,cond_false,cond_true,Bool.and_eq_true,beq_iff_eq]at h
  exact⟨h.2.2.2.2.2.2.1,h.2.2.2.2.2.2.2.1,by omega⟩
 ·simp only[show((2:Int)==0)=false by decide,show((2:Int)==1)=false by decide,show((2:Int)==2)=true by decide,cond_false,cond_true,Bool.and_eq_true,beq_iff_eq]at h
  exact⟨h.2.2.2.2.1,h.2.2.2.2.2.1,by omega⟩
theorem Aul {c:Ab} (h:A0 c=true):A0 (Am3 c)=true:=by
 obtain⟨k1,k2,k3⟩:=Og h
 exact(P0 c.1 c.2.1 (c.2.2.1,c.2.2.2.1,()) k1 k2 k3).2
def TkF (c:Ab) (r:Ab×((List Aa)×Unit)×((List Ae)×Unit)):Prop:=A0 r.1=true∧N3 r.2.1.1∧Ed r.2.2.1∧r.2.1.1.length≤1∧r.2.2.1.length≤1∧Al r.1≤2*Al c+400
theorem fr0:N3 []:=fun f h=>by cases h
theorem no0:Ed []:=fun f h=>by cases h
theorem fr1 {f:Aa} (h:Bg f=true):N3 [f]:=fun g hg=>by
 simp only[List.mem_singleton]at hg
 rw[hg];exact h
theorem no1 {f:Ae} (h:Fg f=true):Ed [f]:=fun g hg=>by
 simp only[List.mem_singleton]at hg
 rw[hg];exact h
theorem Bce {c:Ab} (ho:A0 c=true) (hs:c.2.2.2.2.1=3):Fg ((11:Int),c.1,(0:Int),([]:List YB),c.2.2.2.2.2.2.2.2.2.2.2.2.2.2.2.2.2.2.1,(0:Int),(0:Int),([]:List YB),([]:List YB),(0:Int),(0:Int),(0:Int),())=true:=by
 obtain⟨k1,_,_⟩:=Og ho
 obtain⟨_,_,a3,_⟩:=Th ho hs
 obtain⟨_,f2,_⟩:=Ff a3
 have f2:c.2.2.2.2.2.2.2.2.2.2.2.2.2.2.2.2.2.2.1.length=12:=f2
 rw[Gy]
 simp only[List.length_nil]
 exact⟨by omega,by omega,by omega,by omega,by omega,by omega,.inl trivial,.inr f2,by omega,.inl trivial,Xi⟩
theorem A29 (i:Int) (j:Int) (s:List YB) (h:s.length≤4294967296):Abo (i,()) (j,()) (s,())=some ((11:Int),i,j,([]:List YB),s,(0:Int),(0:Int),([]:List YB),([]:List YB),(0:Int),(0:Int),(0:Int),()):=by
 unfold Abo Ak6
 simp only[Ai,Ad]
 rw[Cd _ zq2,Aj]
theorem A9b (c:Ab) (n:YI) (h:Al c≤1000000) (ho:A0 c=true) (hs:c.2.2.2.2.1=3) (hn:0≤n.1∧n.1≤1000000):
  Tot (fun r=>TkF c r∧(decide (IntKind.i64.wrap (n.1-Dr c)>60)==(r.1.2.2.2.2.1==0))=true) (Ahy c n):=by
 obtain⟨_,_,a3,a4,_,a6,a7⟩:=Th ho hs
 have hnc:Ar (Bm c)≤Al c:=by simp only[Ar,Al];omega
 unfold Ahy Ahh
 simp only[Ag,Ai,Ad]
 refine Ax (fun hd=>?_) (fun hd=>?_)
 ·rw[Azd c zq0,A29 _ _ _ (by simp only[Al]at h;omega)]
  simp only[Aj]
  refine Ak ⟨⟨Aul ho,fr0,no1 (Bce ho hs),by simp,by simp,Nat.le_trans (Al5 c) zq0⟩,?_⟩
  rw[show decide (IntKind.i64.wrap (n.1-Dr c)>60)=true from hd]
  rfl
 ·rw[Gd c zq0,Al7]
  simp only[Aj]
  refine Aq (A46 (Bm c) n zq0 a3) (fun c4 ⟨t1,t2,t3,t4,t5⟩=>?_)
  have t3:c4.1=0:=t3.trans a4
  refine Aq (Lq (clR c) n a6) (fun r5 ⟨s1,s2,s3,s4,s5,s6,s7⟩=>?_)
  have hlast: ∀z:Int,z=3→(decide (IntKind.i64.wrap (n.1-Dr c)>60)==(z==0))=true:=fun z hz=>by
   rw[show decide (IntKind.i64.wrap (n.1-Dr c)>60)=false from hd,hz];rfl
  have hne: ∀ {ch:Af} {r:A9},Ar ch≤Ar (Bm c)→Al (Dn c c.2.2.2.2.1 (Cr c) ch (clT c) r (Dr c))≤2*Al c+400:=fun {ch r} hh=>by
   simp only[Al,Ar,Dn,List.length_nil]at hh ⊢;omega
  refine Ax (fun hz=>?_) (fun hz=>?_)
  ·have hz:=eq_of_beq hz
   exact Ak ⟨⟨Nc (ch:=c4) (r:=r5.1) ho hs t2 t3 s1 (by rw[s4 zq0,a7,t4]),fr0,no0,by simp,by simp,hne (ch:=c4) (r:=r5.1) t1⟩,hlast _ hs⟩
  have hz:=ne_of_beq_false hz
  have hon:=s3 hz
  have hlen:decide (((Bl c4).length:Int)>0)=true:=by rw[t4,←a7];exact hon
  refine Ax (fun h2=>?_) (fun h2=>?_)
  ·rw[Adz,(C7 n hn).1,Aj]
   refine Aq (A45 c4 zq0) (fun r7 h7=>?_)
   refine Ax (fun _=>?_) (fun h0=>?_)
   ·exact Ak ⟨⟨Nc (ch:=c4) (r:=(true,n.1+1,1,1,())) ho hs t2 t3 (C7 n hn).2 (by rw[hlen]),fr0,no0,by simp,by simp,hne (ch:=c4) (r:=(true,n.1+1,1,1,())) t1⟩,hlast _ hs⟩
   ·obtain⟨b1,b2,b3,b4,b5,b6,b7⟩:=h7 (bne_eq_false_iff_eq.1 h0)
    have b6':=b6
    simp only[Ar]at b6
    rw[Aay _ _ (by simp only[Ar]at t1 hnc;omega) zq0,Aj]
    exact Ak ⟨⟨Nc (ch:=r7.1) (r:=(true,n.1+1,1,1,())) ho hs b1 (b2.trans t3) (C7 n hn).2 (by rw[b3,hlen]),fr1 b4,no1 b5,by simp,by simp,hne (ch:=r7.1) (r:=(true,n.1+1,1,1,())) zq0⟩,hlast _ hs⟩
  ·have h2:=ne_of_beq_false h2
   have hr:r5.1.1=true:=(s4 h2).trans hon
   refine Aq (A45 c4 zq0) (fun r7 h7=>?_)
   refine Ax (fun _=>?_) (fun h0=>?_)
   ·exact Ak ⟨⟨Nc (ch:=c4) (r:=r5.1) ho hs t2 t3 s1 (by rw[hlen,hr]),fr0,no0,by simp,by simp,hne (ch:=c4) (r:=r5.1) t1⟩,hlast _ hs⟩
   ·obtain⟨b1,b2,b3,b4,b5,b6,b7⟩:=h7 (bne_eq_false_iff_eq.1 h0)
    have b6':=b6
    simp only[Ar]at b6
    rw[Aay _ _ (by simp only[Ar]at t1 hnc;omega) zq0,Aj]
    exact Ak ⟨⟨Nc (ch:=r7.1) (r:=r5.1) ho hs b1 (b2.trans t3) s1 (by rw[b3,hlen,hr]),fr1 b4,no1 b5,by simp,by simp,hne (ch:=r7.1) (r:=r5.1) zq0⟩,hlast _ hs⟩
theorem Bcf (c:Ab) (n:YI) (h:Al c≤1000000) (ho:A0 c=true) (hn:0≤n.1∧n.1≤1000000):
  Tot (fun r=>TkF c r∧(c.2.2.2.2.1=3→(decide (IntKind.i64.wrap (n.1-Dr c)>60)==(r.1.2.2.2.2.1==0))=true)) (Q3 c n):=by
 unfold Q3 Qu
 simp only[Ag,Ai,Ad]
 rw[Gd c zq0,Ea c zq0,Br,Al7]
 simp only[Aj,ho,A6.2 hn,Bool.not_true,An]
 have same:TkF c (c,(([]:List Aa),()),(([]:List Ae),())):=⟨ho,fr0,no0,by simp,by simp,by dsimp only;omega⟩
 refine Ax (fun h0=>Ak ⟨same,fun e=>by have:=eq_of_beq h0;omega⟩) (fun h0=>?_)
 have h0:=ne_of_beq_false h0
 refine Ax (fun h3=>?_) (fun h3=>?_)
 ·refine Aq (A9b c n h ho (eq_of_beq h3) hn) (fun r4 ⟨q1,q2⟩=>Ak ⟨q1,fun _=>q2⟩)
 have h3:=ne_of_beq_false h3
 have hst:=Bab ho
 have hs:c.2.2.2.2.1=1∨c.2.2.2.2.1=2:=by omega
 obtain⟨g1,g2,g3⟩:=Bdo ho hs
 obtain⟨k1,_,_⟩:=Og ho
 refine Aq (Lq (clT c) n g2) (fun r5 ⟨s1,s2,s3,s4,s5,s6,s7⟩=>?_)
 refine Ax (fun hz=>?_) (fun hz=>?_)
 ·rw[Azd c zq0,Cd _ zq2]
  simp only[Aj]
  refine Ak ⟨⟨Aul ho,fr0,no1 ?_,by simp,by simp,Nat.le_trans (Al5 c) zq0⟩,fun e=>(h3 e).elim⟩
  rw[Gy]
  simp only[List.length_nil]
  exact⟨by omega,by omega,by omega,by omega,by omega,by omega,.inr g3,.inl trivial,by omega,.inl trivial,Xi⟩
 have hz:=ne_of_beq_false hz
 have hr:r5.1.1=true:=(s4 hz).trans g1
 have hne: ∀ {t:A9},Al (Dn c c.2.2.2.2.1 (Cr c) (Bm c) t (clR c) (Dr c))≤2*Al c+400:=fun {t}=>by
  simp only[Al,Dn,List.length_nil];omega
 have fin:c.2.2.2.2.1=2→Tot (fun r=>TkF c r∧(c.2.2.2.2.1=3→(decide (IntKind.i64.wrap (n.1-Dr c)>60)==(r.1.2.2.2.2.1==0))=true)) (br (r5.2.1==(1:Int)) (ob (Gm (Cr c)) fun r9=>some (Dn c c.2.2.2.2.1 (Cr c) (Bm c) r5.1 (clR c) (Dr c),([r9],()),(([]:List Ae),()))) (some (Dn c c.2.2.2.2.1 (Cr c) (Bm c) r5.1 (clR c) (Dr c),(([]:List Aa),()),(([]:List Ae),())))):=fun h2=>by
  refine Ax (fun _=>?_) (fun _=>?_)
  ·rw[Ady _ (by simp only[As,Al]at h ⊢;omega),Aj]
   exact Ak ⟨⟨Am6 ho hs ⟨hr,s1⟩,fr1 (Bcd ho h2),no0,by simp,by simp,hne⟩,fun e=>(h3 e).elim⟩
  ·exact Ak ⟨⟨Am6 ho hs ⟨hr,s1⟩,fr0,no0,by simp,by simp,hne⟩,fun e=>(h3 e).elim⟩
 refine Ax (fun h1=>?_) (fun h1=>?_)
 ·refine Ax (fun hb=>?_) (fun hb=>?_)
  ·rw[A8r c zq0,Aj]
   refine Ak ⟨⟨A7l (t:=r5.1) ho hs ⟨hr,s1⟩,fr1 ?_,no0,by simp,by simp,hne (t:=r5.1)⟩,fun e=>(h3 e).elim⟩
   unfold Bg
   simp only[A6.2 k1,g3,show inR 1 4 8=false by decide,cond_false,show((1:Int)==1)=true by decide,cond_true]
   decide
  ·have hb:=ne_of_beq_false hb
   exact fin zq0
 ·rw[h1,An]
  exact Ak ⟨⟨A7l (t:=r5.1) ho hs ⟨hr,s1⟩,fr0,no0,by simp,by simp,hne (t:=r5.1)⟩,fun e=>(h3 e).elim⟩
theorem Bcg (c:Ab) (n:YI) (p:YBs) (h:Al c≤1000000) (hp:p.1.length≤1000000) (ho:A0 c=true):
  Tot (fun r=>(r.2.2.2.1=0→c.2.2.2.2.1=3∧r.2.1.1.length=1∧r.2.2.1.1.length=2∧A0 r.1=true∧Al r.1≤4000000)∧(r.2.2.2.1≠0→r.1=c)) (Q4 c n p):=by
 obtain⟨pl,⟨⟩⟩:=p
 dsimp only at hp
 have hnc:Ar (Bm c)≤Al c:=by simp only[Ar,Al];omega
 unfold Q4 Qv
 simp only[Ag,Ai,Ad]
 rw[Gd c zq0,Ea c zq0,Br]
 simp only[Aj,ho,Bool.not_true,An]
 have same: ∀ {x:Ab×((List Aa)×Unit)×((List Ae)×Unit)×YI} (z:Int),z≠0→x=(c,(([]:List Aa),()),(([]:List Ae),()),(z,()))→Tot (fun r=>(r.2.2.2.1=0→c.2.2.2.2.1=3∧r.2.1.1.length=1∧r.2.2.1.1.length=2∧A0 r.1=true∧Al r.1≤4000000)∧(r.2.2.2.1≠0→r.1=c)) (some x):=fun {x} z hz e=>by
  subst e
  exact Ak ⟨fun e=>(hz e).elim,fun _=>rfl⟩
 refine Ax (fun _=>same 1 zq4 rfl) (fun _=>?_)
 refine Ax (fun _=>same 1 zq4 rfl) (fun _=>?_)
 refine Ax (fun _=>same 6 zq4 rfl) (fun hs=>?_)
 have hs:=bne_eq_false_iff_eq.1 hs
 obtain⟨_,_,a3,a4,_,a6,a7⟩:=Th ho hs
 obtain⟨c',f,z,h1,_,h3⟩:=Ad0 (Bm c) 4 pl zq0
 refine Aq (Q:=fun r=>r=(c',f,(z,()))) ⟨_,h1,rfl⟩ (fun r4 e=>?_)
 subst e
 dsimp only
 refine Ax (fun hz=>same z (by simpa using hz) rfl) (fun hz=>?_)
 obtain rfl:z=0:=bne_eq_false_iff_eq.1 hz
 obtain⟨b1,b2,b3,b4,b5,b6,b7,b8⟩:=Av7 h3
 have b6':=b6
 simp only[Ar]at b6
 rw[Cd _ (by rw[b8];simp only[Al]at h;dsimp only;omega),Cd _ zq2,Aay _ _ (by simp only[Ar]at hnc;omega) zq0]
 simp only[Aj]
 refine Ak ⟨fun _=>⟨hs,rfl,rfl,Nc (ch:=c') (r:=clR c) ho hs b1 (b2.trans a4) a6 (by rw[b3];exact a7),?_⟩,fun e=>(e rfl).elim⟩
 have:Al (Dn c c.2.2.2.2.1 (Cr c) c' (clT c) (clR c) (Dr c))≤4000000:=by
  simp only[Al,Ar,Dn,List.length_nil]at b6 h ⊢;omega
 exact this
theorem Ba3 (c:Ab) (n:YI) (h:Al c≤1000000) (ho:A0 c=true) (hn:0≤n.1∧n.1≤1000000):
  Tot (fun r=>(r.2.2.2.1=0→r.2.1.1.length=1∧r.2.2.1.1.length=1∧A0 r.1=true∧Al r.1≤4000000∧r.1.2.2.2.2.2.2.2.2.2.2.2.2.2.2.2.2.2.2.2.2.2.2.2.2.2.2.2.2.2.2.2.1.length=32)∧(r.2.2.2.1≠0→r.1=c)) (Pq c n):=by
 have hnc:Ar (Bm c)≤Al c:=by simp only[Ar,Al];omega
 unfold Pq Pd
 simp only[Ag,Ai,Ad]
 rw[Gd c zq0,Ea c zq0,Br]
 simp only[Aj,ho,Bool.not_true,An,A6.2 hn]
 have same: ∀ {x:Ab×((List Aa)×Unit)×((List Ae)×Unit)×YI} (z:Int),z≠0→x=(c,(([]:List Aa),()),(([]:List Ae),()),(z,()))→Tot (fun r=>(r.2.2.2.1=0→r.2.1.1.length=1∧r.2.2.1.1.length=1∧A0 r.1=true∧Al r.1≤4000000∧r.1.2.2.2.2.2.2.2.2.2.2.2.2.2.2.2.2.2.2.2.2.2.2.2.2.2.2.2.2.2.2.2.1.length=32)∧(r.2.2.2.1≠0→r.1=c)) (some x):=fun {x} z hz e=>by
  subst e
  exact Ak ⟨fun e=>(hz e).elim,fun _=>rfl⟩
 refine Ax (fun _=>same 6 zq4 rfl) (fun hs=>?_)
 refine Ax (fun _=>same 6 zq4 rfl) (fun _=>?_)
 have hs:=bne_eq_false_iff_eq.1 hs
 obtain⟨_,_,a3,a4,_,a6,a7⟩:=Th ho hs
 refine Aq (Bcc (Bm c) zq0) (fun r4 ⟨w1,w2⟩=>?_)
 refine Aq (A45 r4.1 zq0) (fun r5 h5=>?_)
 refine Ax (fun _=>same 5 zq4 rfl) (fun hw=>?_)
 refine Ax (fun _=>same 5 zq4 rfl) (fun hz=>?_)
 obtain⟨g1,g2,g3⟩:=w2 (by simpa using hw)
 obtain⟨b1,b2,b3,b4,b5,b6,b7⟩:=h5 (bne_eq_false_iff_eq.1 hz)
 have b6':=b6
 simp only[Ar]at b6
 rw[Adz,(C7 n hn).1,Aay _ _ (by simp only[Ar]at hnc w1;omega) zq0]
 simp only[Aj]
 refine Ak ⟨fun _=>⟨rfl,rfl,Nc (ch:=r5.1) (r:=(true,n.1+1,1,1,())) ho hs b1 (b2.trans g2) (C7 n hn).2 (by rw[b3,g3];rfl),?_,?_⟩,fun e=>(e rfl).elim⟩
 ·have:Al (Dn c c.2.2.2.2.1 (Cr c) r5.1 (clT c) (true,n.1+1,1,1,()) (Dr c))≤4000000:=by
   simp only[Al,Ar,Dn,List.length_nil]at b6 h w1 hnc ⊢;omega
  exact this
 ·have:(Bl r5.1).length=32:=by rw[b3];exact g3
  exact this
theorem Bch (c:Ab) (h:Al c≤1000000) (ho:A0 c=true):Tot (fun r=>r.1=Am3 c) (Ap6 c):=by
 unfold Ap6 Apz
 simp only[Ag,Ai,Ad]
 rw[Ea c zq0,Azd c zq0,A29 _ _ _ (by simp only[Al]at h;omega)]
 simp only[Aj,ho,Bool.not_true,An]
 exact Ax (fun _=>Ak rfl) (fun _=>Ak rfl)
theorem A7m (a:YBs):Aop a=some (true,()):=by
 unfold Aop Mt
 simp only[Ai,Ag,Ad,Ao]
 rw[show A2t a=some (decide ((a.1.length:Int)>(1048576:Int)),())from rfl,Aj]
 by_cases hb:(a.1.length:Int)>1048576
 ·rw[Am hb,Aw]
 rw[A8 hb,An]
 obtain⟨⟨c,n⟩,e,⟨ho,hn⟩,hne,_⟩:=Auk a zq0
 dsimp only at ho hn hne
 have hn:0≤n.1∧n.1≤1000000:=by omega
 have hq:(a.1.length:Int)%8≤(a.1.length:Int):=by omega
 have hq0:(0:Int)≤(a.1.length:Int)%8:=by omega
 obtain⟨⟨x,⟨fs,⟨⟩⟩,⟨ns,⟨⟩⟩⟩,e3,⟨x1,x2,x3,x4,x5,x6⟩,x7⟩:=Bcf c n zq0 ho hn
 obtain⟨⟨y,⟨gs,⟨⟩⟩,⟨ms,⟨⟩⟩,⟨z4,⟨⟩⟩⟩,e4,y1,y2⟩:=Bcg c n ((a.1.take ((a.1.length:Int)%8).toNat).drop (0:Int).toNat,()) zq0 zq1 ho
 obtain⟨⟨z,⟨hs,⟨⟩⟩,⟨ks,⟨⟩⟩,⟨z5,⟨⟩⟩⟩,e5,w1,w2⟩:=Ba3 c n zq0 ho hn
 obtain⟨⟨d,l6⟩,e6,v1⟩:=Bch c zq0 ho
 dsimp only at x1 x2 x3 x4 x5 x6 x7 y1 y2 w1 w2 v1
 rw[e,Aj]
 dsimp only
 rw[e3,Aj,Am (show(0:Int)≤(a.1.length:Int) by omega),A5,Am hq0,A5,Am hq,A5,e4,Aj,e5,Aj,e6,Aj]
 dsimp only
 have k7:Bw c=some (true,()):=by rw[Ea c zq0,ho]
 have k8:Bw x=some (true,()):=by rw[Ea x zq0,x1]
 have k9:=A42 fs x2 zq0
 have k10:=A7i ns x3 zq0
 have hni:=Al5 c
 have k11:Bw d=some (true,()):=by rw[v1,Ea _ zq0,Aul ho]
 have k12:(d.2.2.2.2.1 != (0:Int))=false:=by rw[v1];rfl
 have ks0:=Ass c zq0
 have last:(br (c.2.2.2.2.1 != (3:Int)) (some (true,())) (some ((decide (IntKind.i64.wrap (n.1-Dr c)>60)==(x.2.2.2.2.1==(0:Int))),())))=some (true,()):=by
  cases h3:(c.2.2.2.2.1 != (3:Int))with
  |true=>rfl
  |false=>rw[An,x7 (bne_eq_false_iff_eq.1 h3)]
 simp only[k7,k8,k9,k10,k11,k12,Aj,Bool.not_true,An]
 by_cases h4:z4=0
 ·obtain⟨q1,q2,q3,q4,q5⟩:=y1 h4
  have k13:Bw y=some (true,()):=by rw[Ea y zq0,q4]
  have k14:(z4==(0:Int))=true:=by simp[h4]
  have k15:(z4 != (0:Int))=false:=by simp[h4]
  have k16:(c.2.2.2.2.1 != (3:Int))=false:=by simp[q1]
  have k17:((gs.length:Int) != (1:Int))=false:=by simp[q2]
  have k18:((ms.length:Int) != (2:Int))=false:=by simp[q3]
  rw[k16]at last
  rw[An]at last
  by_cases h5:z5=0
  ·obtain⟨p1,p2,p3,p4,p5⟩:=w1 h5
   have k23:Bw z=some (true,()):=by rw[Ea z zq0,p3]
   have k24:(z5==(0:Int))=true:=by simp[h5]
   have k25:(z5 != (0:Int))=false:=by simp[h5]
   have k26:((hs.length:Int) != (1:Int))=false:=by simp[p1]
   have k27:((ks.length:Int) != (1:Int))=false:=by simp[p2]
   have k28:((z.2.2.2.2.2.2.2.2.2.2.2.2.2.2.2.2.2.2.2.2.2.2.2.2.2.2.2.2.2.2.2.1.length:Int)==(0:Int))=false:=by rw[p5];rfl
   simp only[k13,k14,k15,k16,k17,k18,k23,k24,k25,k26,k27,k28,Aj,Bool.not_true,An,Aw]
   exact last
  ·have hz:=w2 h5
   subst hz
   have k24:(z5==(0:Int))=false:=by simpa using h5
   have k25:(z5 != (0:Int))=true:=by simpa using h5
   simp only[k13,k14,k15,k16,k17,k18,k24,k25,ks0,Aj,Bool.not_true,An,Aw]
   exact last
 ·have hy:=y2 h4
  subst hy
  have k14:(z4==(0:Int))=false:=by simpa using h4
  have k15:(z4 != (0:Int))=true:=by simpa using h4
  by_cases h5:z5=0
  ·obtain⟨p1,p2,p3,p4,p5⟩:=w1 h5
   have k23:Bw z=some (true,()):=by rw[Ea z zq0,p3]
   have k24:(z5==(0:Int))=true:=by simp[h5]
   have k25:(z5 != (0:Int))=false:=by simp[h5]
   have k26:((hs.length:Int) != (1:Int))=false:=by simp[p1]
   have k27:((ks.length:Int) != (1:Int))=false:=by simp[p2]
   have k28:((z.2.2.2.2.2.2.2.2.2.2.2.2.2.2.2.2.2.2.2.2.2.2.2.2.2.2.2.2.2.2.2.1.length:Int)==(0:Int))=false:=by rw[p5];rfl
   simp only[k14,k15,k23,k24,k25,k26,k27,k28,ks0,Aj,Bool.not_true,An,Aw]
   exact last
  ·have hz:=w2 h5
   subst hz
   have k24:(z5==(0:Int))=false:=by simpa using h5
   have k25:(z5 != (0:Int))=true:=by simpa using h5
   simp only[k14,k15,k24,k25,ks0,Aj,Bool.not_true,An,Aw]
   exact last
end
end Go.Proofs.YtmhhajdeafijmaaGreat
