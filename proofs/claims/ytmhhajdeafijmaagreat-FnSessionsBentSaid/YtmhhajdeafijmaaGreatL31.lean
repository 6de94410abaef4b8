/-
  That the program and the reference answer alike, in plain terms, and that the laws answer true.
-/
import Derived.Test.YtmhhajdeafijmaaGreatL30
namespace Go.Proofs.YtmhhajdeafijmaaGreat
open Go.RowKit
set_option linter.unusedVariables false
set_option linter.unusedSimpArgs false
set_option maxRecDepth 100000
set_option maxHeartbeats 4000000
noncomputable section
def Acj (c:Aj) (e:YEp):Aj:=(c.1,c.2.1,c.2.2.1,c.2.2.2.1,c.2.2.2.2.1,c.2.2.2.2.2.1,c.2.2.2.2.2.2.1,e.1,e.2.1,e.2.2.1,e.2.2.2.1,e.2.2.2.2.1,c.2.2.2.2.2.2.2.2.2.2.2.2.1,c.2.2.2.2.2.2.2.2.2.2.2.2.2.1,c.2.2.2.2.2.2.2.2.2.2.2.2.2.2.1,())
def Tf (c:Aj) (u:Int):Aj:=(c.1,c.2.1,c.2.2.1,c.2.2.2.1,c.2.2.2.2.1,c.2.2.2.2.2.1,c.2.2.2.2.2.2.1,c.2.2.2.2.2.2.2.1,c.2.2.2.2.2.2.2.2.1,c.2.2.2.2.2.2.2.2.2.1,c.2.2.2.2.2.2.2.2.2.2.1,c.2.2.2.2.2.2.2.2.2.2.2.1,c.2.2.2.2.2.2.2.2.2.2.2.2.1,u,c.2.2.2.2.2.2.2.2.2.2.2.2.2.2.1,())
def moved (c:Aj) (e:YEp) (u:Int):Aj:=(c.1,c.2.1,e.1,e.2.1,e.2.2.1,e.2.2.2.1,e.2.2.2.2.1,c.2.2.1,c.2.2.2.1,c.2.2.2.2.1,c.2.2.2.2.2.1,c.2.2.2.2.2.2.1,true,u,([]:List YB),())
def A7g (e:YEp) (n:Int):YEp:=(e.1,e.2.1,e.2.2.1,(Hr (e.2.2.2.1,e.2.2.2.2.1,()) n).1,(Hr (e.2.2.2.1,e.2.2.2.2.1,()) n).2.1,())
theorem A84 {e:YEp} {n:Int} (h:Es e=true) (hm:Gt (e.2.2.2.1,e.2.2.2.2.1,()) n=true):Es (A7g e n)=true:=by
 have hw:=A5i hm
 unfold Es at h ⊢
 simp only[Bool.and_eq_true]at h ⊢
 exact⟨h.1,h.2.1,h.2.2.1,hw⟩
theorem EpO.ok {e:YEp} {r:Int} {f:Au} {e':YEp} {p:List YB} {z:Int} (h:EpO e r f e' p z) (hz:z=0):Es e=true∧e'=A7g e f.2.2.2.2.2.2.2.2.1∧Es e'=true∧f.2.2.2.2.2.2.2.1=e.1∧p=mix e.2.1 (Df r f.2.2.2.1 f.2.2.2.2.2.2.2.1 f.2.2.2.2.2.2.2.2.1) f.2.2.2.2.2.2.2.2.2.1:=by
 obtain⟨h1,h2,h3,h4⟩:=h
 obtain⟨k1,k2,k3,k4,k5⟩:=h4 hz
 have k2':e'=A7g e f.2.2.2.2.2.2.2.2.1:=k2
 exact⟨k1,k2',by rw[k2'];exact A84 k1 k3,k4,k5⟩
theorem Aqo {f:Au} (h:El f=true) (hs:inR f.1 4 8=true):f.2.2.2.1.length=12∧(0≤f.2.2.2.2.2.2.2.1∧f.2.2.2.2.2.2.2.1≤4294967295)∧(0≤f.2.2.2.2.2.2.2.2.1∧f.2.2.2.2.2.2.2.2.1≤281474976710655)∧Ie f.1 (f.2.2.2.2.2.2.2.2.2.1.length:Int)=true∧f.2.2.2.2.2.2.2.2.2.1.length≤40:=by
 unfold El at h
 rw[hs]at h
 simp only[cond_true,Bool.and_eq_true,C6,beq_iff_eq]at h
 have hb:=h.2.2.2.2.2.2.2.2.1
 have:=A82 hb
 exact⟨by omega,h.2.2.2.2.2.2.1,h.2.2.2.2.2.2.2.1,hb,by omega⟩
def ChO (c:Aj) (n:Int) (f:Au) (c':Aj) (p:List YB) (z:Int):Prop:=
 Ax c'≤Ax c+200∧p.length≤Aq f∧(z≠0→c'=c∧p=[])∧
 (z=0→Ci c=true∧Ci c'=true∧(0≤n∧n≤1000000)∧El f=true∧inR f.1 4 8=true∧f.2.2.2.1=c.2.1∧c'.1=c.1∧c'.2.1=c.2.1∧
  p.length=f.2.2.2.2.2.2.2.2.2.1.length∧wfB p∧
  ((c'.2.2.1=c.2.2.1∧Ki c'=Ki c∧c'.2.2.2.2.1=c.2.2.2.2.1∧c'.2.2.2.1=c.2.2.2.1)∨(c'.2.2.1=c.2.2.1+1∧Ki c'=[]∧c'.2.2.2.2.1=0∧f.2.2.2.2.2.2.2.1=c.2.2.1+1∧(Ki c).length=32)))
theorem Axv {c:Aj} {u:Int} (h:Ci c=true) (hh:Qm c=true) (hu:0≤u∧u≤1000005):Ci (Tf c u)=true:=by
 unfold Ci at h ⊢
 simp only[Bool.not_not,Bool.and_eq_true]at h ⊢
 refine⟨h.1,h.2.1,h.2.2.1,?_,h.2.2.2.2⟩
 have ho:=h.2.2.2.1
 unfold K5 at ho ⊢
 rw[hh]at ho
 have hh':Qm (Tf c u)=true:=hh
 rw[hh']
 simp only[Bool.not_true,cond_false,Bool.not_not,Bool.and_eq_true,Bool.or_eq_true]at ho ⊢
 exact⟨ho.1,ho.2.1,.inl (C6.2 hu)⟩
theorem A25 {c:Aj} {e:YEp} (h:Ci c=true) (hh:Qm c=true) (he:Es e=true) (h1:e.1=(Qk c).1):Ci (Acj c e)=true:=by
 unfold Ci at h ⊢
 simp only[Bool.not_not,Bool.and_eq_true]at h ⊢
 refine⟨h.1,h.2.1,h.2.2.1,?_,h.2.2.2.2⟩
 have ho:=h.2.2.2.1
 unfold K5 at ho ⊢
 rw[hh]at ho
 have hh':Qm (Acj c e)=true:=hh
 rw[hh']
 simp only[Bool.not_true,cond_false,Bool.not_not,Bool.and_eq_true,Bool.or_eq_true]at ho ⊢
 refine⟨he,?_,ho.2.2⟩
 have:=ho.2.1
 rw[←h1]at this
 exact this
theorem A7h {c:Aj} {e:YEp} {u:Int} (h:Ci c=true) (he:Es e=true) (h1:e.1=c.2.2.1+1) (hu:0≤u∧u≤1000005):Ci (moved c e u)=true:=by
 obtain⟨f1,f2,f3,f4,f5⟩:=Hs h
 have f6:=(D4 f3).1
 have f7:=(D4 he).1
 unfold Ci at h ⊢
 simp only[Bool.not_not,Bool.and_eq_true]at h ⊢
 refine⟨h.1,h.2.1,he,?_,?_⟩
 ·unfold K5
  have hh:Qm (moved c e u)=true:=rfl
  rw[hh]
  simp only[Bool.not_true,cond_false,Bool.not_not,Bool.and_eq_true,Bool.or_eq_true,Bool.not_eq_true',bne_eq_false_iff_eq]
  refine⟨f3,?_,.inl (C6.2 hu)⟩
  show c.2.2.1=IntKind.i64.wrap (e.1-1)
  have f6':0≤c.2.2.1∧c.2.2.1≤4294967295:=f6
  rw[w64 zq0];omega
 ·show(((([]:List YB).length:Int)==0) || _)=true
  rfl
theorem A26 (c:Aj) (n:YI) (f:Au) (h:Ax c≤67000000) (h2:Aq f≤67108864) (w1:wfB f.2.2.2.1) (w2:wfB c.2.1):
  ∃c' p z,Hn c n f=some (c',(p,()),(z,()))∧ChO c n.1 f c' p z:=by
 have hc:=h
 simp only[Ax]at hc
 unfold Hn Py
 simp only[Af,Ah,Ac]
 rw[Lz c zq0,Ls c,C4,Ro,Ta,Wz]
 simp only[Ai]
 have nope: ∀z:Int,z≠0→ ∃c' p z',some (c,(([]:List YB),()),(z,()))=some (c',(p,()),(z',()))∧ChO c n.1 f c' p z':=fun z hz=>
  ⟨c,[],z,rfl,by omega,by simp,fun _=>⟨rfl,rfl⟩,fun h=>(hz h).elim⟩
 cases ho:Ci c with
 |false=>exact nope 1 zq3
 |true=>
 cases hn:inR n.1 0 1000000 with
 |false=>exact nope 1 zq3
 |true=>
 simp only[Bool.not_true,Ap]
 cases hfo:El f with
 |false=>exact nope 1 zq3
 |true=>
 simp only[Bool.not_true,Ap]
 cases hse:inR f.1 4 8 with
 |false=>exact nope 1 zq3
 |true=>
 simp only[Bool.not_true,Ap]
 have hn':=C6.1 hn
 obtain⟨b1,b2,b3,b4,b5⟩:=Aqo hfo hse
 obtain⟨f1,f2,f3,f4,f5⟩:=Hs ho
 obtain⟨f6,f7,f8⟩:=D4 f3
 have f6:0≤c.2.2.1∧c.2.2.1≤4294967295:=f6
 have hwN:IntKind.i64.wrap (c.2.2.1+(1:Int))=c.2.2.1+1:=w64 zq0
 have hw5:IntKind.i64.wrap (n.1+(5:Int))=n.1+5:=w64 zq0
 have hr:IntKind.i64.wrap ((1:Int)-c.1)=1-c.1:=w64 zq0
 obtain⟨e1,p1,z1,_,s1,E1⟩:=X8 (c.2.2.1,c.2.2.2.1,c.2.2.2.2.1,c.2.2.2.2.2.1,c.2.2.2.2.2.2.1,()) (1-c.1) f (by simp only[Bs];omega) zq0
 obtain⟨e2,p2,z2,_,s2,E2⟩:=X8 (c.2.2.2.2.2.2.2.1,c.2.2.2.2.2.2.2.2.1,c.2.2.2.2.2.2.2.2.2.1,c.2.2.2.2.2.2.2.2.2.2.1,c.2.2.2.2.2.2.2.2.2.2.2.1,()) (1-c.1) f (by simp only[Bs];omega) zq0
 obtain⟨en,n1,n2,n3⟩:=An6 (IntKind.i64.wrap (c.2.2.1+(1:Int)),()) (c.2.2.2.2.2.2.2.2.2.2.2.2.2.2.1,())
 obtain⟨e3,p3,z3,_,s3,E3⟩:=X8 en (1-c.1) f zq0 zq0
 rw[hr,s1,s2,n2]
 simp only[Ai]
 rw[s3]
 simp only[Ai]
 cases hs:E4 f.2.2.2.1 c.2.1 with
 |false=>exact nope 8 zq3
 |true=>
 have hsn:=Axn w1 w2 hs
 simp only[Bool.not_true,Ap]
 have pl: ∀ {k:List YB} {p:List YB},k.length=32→p=mix k (Df (1-c.1) f.2.2.2.1 f.2.2.2.2.2.2.2.1 f.2.2.2.2.2.2.2.2.1) f.2.2.2.2.2.2.2.2.2.1→p.length=f.2.2.2.2.2.2.2.2.2.1.length∧wfB p:=fun {k p} hk hp=>by
  have hl:(Df (1-c.1) f.2.2.2.1 f.2.2.2.2.2.2.2.1 f.2.2.2.2.2.2.2.2.1).length≤23:=by
   rw[Lx];cases Fm (1-c.1) f.2.2.2.1 f.2.2.2.2.2.2.2.1 f.2.2.2.2.2.2.2.2.1<;>simp
  rw[hp]
  exact⟨A83 zq0 zq0 zq0,A81 _ _ _⟩
 have hnE1:Bs e1=Bs (I1 c):=E1.1
 have hnE2:Bs e2=Bs (Qk c):=E2.1
 simp only[Bs,I1]at hnE1
 simp only[Bs,Qk]at hnE2
 have hpn: ∀p:List YB,p.length=f.2.2.2.2.2.2.2.2.2.1.length→p.length≤Aq f:=fun p h=>by simp only[Aq];omega
 cases q1:(f.2.2.2.2.2.2.2.1==c.2.2.1)with
 |true=>
  simp only[Az]
  by_cases hz:z1=0
  ·subst hz
   simp only[show((0:Int) != (0:Int))=false from rfl,Ap]
   obtain⟨o1,o2,o3,o4,o5⟩:=E1.ok rfl
   obtain⟨g1,g2⟩:=pl f7 o5
   have hN:e1.1=c.2.2.1:=by rw[o2];rfl
   have hcur:=Aqn ho o3 hN
   have hk:e1.2.1=c.2.2.2.1:=by rw[o2];rfl
   have hq:e1.2.2.1=c.2.2.2.2.1:=by rw[o2];rfl
   have plain:ChO c n.1 f (Ee c e1) p1 0:=⟨by simp only[Ax,Ee];omega,hpn _ g1,fun h=>(h rfl).elim,fun _=>⟨ho,hcur,hn',hfo,hse,hsn,rfl,rfl,g1,g2,.inl ⟨hN,rfl,hq,hk⟩⟩⟩
   cases hold:c.2.2.2.2.2.2.2.2.2.2.2.2.1 with
   |true=>
    simp only[Az]
    cases hu:(c.2.2.2.2.2.2.2.2.2.2.2.2.2.1==(-1:Int))with
    |true=>
     rw[Az,hw5]
     have hw:=Axv (c:=Ee c e1) (u:=n.1+5) hcur hold zq0
     refine⟨_,p1,0,rfl,?_⟩
     rw[show((c.1,c.2.1,e1.1,e1.2.1,e1.2.2.1,e1.2.2.2.1,e1.2.2.2.2.1,c.2.2.2.2.2.2.2.1,c.2.2.2.2.2.2.2.2.1,c.2.2.2.2.2.2.2.2.2.1,c.2.2.2.2.2.2.2.2.2.2.1,c.2.2.2.2.2.2.2.2.2.2.2.1,true,n.1+5,c.2.2.2.2.2.2.2.2.2.2.2.2.2.2.1,()):Aj)=Tf (Ee c e1) (n.1+5) by simp only[Tf,Ee,hold]]
     exact⟨by simp only[Ax,Ee,Tf];omega,hpn _ g1,fun h=>(h rfl).elim,fun _=>⟨ho,hw,hn',hfo,hse,hsn,rfl,rfl,g1,g2,.inl ⟨hN,rfl,hq,hk⟩⟩⟩
    |false=>
     rw[Ap]
     refine⟨_,p1,0,rfl,?_⟩
     rw[show((c.1,c.2.1,e1.1,e1.2.1,e1.2.2.1,e1.2.2.2.1,e1.2.2.2.2.1,c.2.2.2.2.2.2.2.1,c.2.2.2.2.2.2.2.2.1,c.2.2.2.2.2.2.2.2.2.1,c.2.2.2.2.2.2.2.2.2.2.1,c.2.2.2.2.2.2.2.2.2.2.2.1,true,c.2.2.2.2.2.2.2.2.2.2.2.2.2.1,c.2.2.2.2.2.2.2.2.2.2.2.2.2.2.1,()):Aj)=Ee c e1 by simp only[Ee,hold]]
     exact plain
   |false=>
    rw[Ap]
    refine⟨_,p1,0,rfl,?_⟩
    rw[show((c.1,c.2.1,e1.1,e1.2.1,e1.2.2.1,e1.2.2.2.1,e1.2.2.2.2.1,c.2.2.2.2.2.2.2.1,c.2.2.2.2.2.2.2.2.1,c.2.2.2.2.2.2.2.2.2.1,c.2.2.2.2.2.2.2.2.2.2.1,c.2.2.2.2.2.2.2.2.2.2.2.1,false,c.2.2.2.2.2.2.2.2.2.2.2.2.2.1,c.2.2.2.2.2.2.2.2.2.2.2.2.2.2.1,()):Aj)=Ee c e1 by simp only[Ee,hold]]
    exact plain
  ·simp only[show(z1 != (0:Int))=true by simpa using hz,Az]
   exact nope z1 hz
 |false=>
  simp only[Ap]
  have nxt: ∃c' p z,(br (decide ((c.2.2.2.2.2.2.2.2.2.2.2.2.2.2.1.length:Int)>(0:Int))) (br (f.2.2.2.2.2.2.2.1==IntKind.i64.wrap (c.2.2.1+(1:Int))) (br (z3 != (0:Int)) (some (c,(([]:List YB),()),(z3,()))) (some ((c.1,c.2.1,e3.1,e3.2.1,e3.2.2.1,e3.2.2.2.1,e3.2.2.2.2.1,c.2.2.1,c.2.2.2.1,c.2.2.2.2.1,c.2.2.2.2.2.1,c.2.2.2.2.2.2.1,true,IntKind.i64.wrap (n.1+(5:Int)),([]:List YB),()),(p3,()),((0:Int),())))) (some (c,(([]:List YB),()),((8:Int),())))) (some (c,(([]:List YB),()),((8:Int),()))))=some (c',(p,()),(z,()))∧ChO c n.1 f c' p z:=by
   cases hnx:decide ((c.2.2.2.2.2.2.2.2.2.2.2.2.2.2.1.length:Int)>(0:Int))with
   |false=>exact nope 8 zq3
   |true=>
   have hnx':(c.2.2.2.2.2.2.2.2.2.2.2.2.2.2.1.length:Int)>0:=of_decide_eq_true hnx
   obtain⟨k1,k2,k3⟩:=f5.resolve_left zq0
   simp only[Az]
   cases q3:(f.2.2.2.2.2.2.2.1==IntKind.i64.wrap (c.2.2.1+(1:Int)))with
   |false=>exact nope 8 zq3
   |true=>
   rw[hwN]at q3
   have q3:f.2.2.2.2.2.2.2.1=c.2.2.1+1:=by simpa using q3
   simp only[Az]
   by_cases hz:z3=0
   ·subst hz
    simp only[show((0:Int) != (0:Int))=false from rfl,Ap,hw5]
    obtain⟨o1,o2,o3,o4,o5⟩:=E3.ok rfl
    obtain⟨g1,g2⟩:=pl (D4 o1).2.1 o5
    have hN:e3.1=c.2.2.1+1:=by rw[o2];show en.1=_;rw[←o4,q3]
    have hs0:e3.2.2.1=0:=by
     rw[o2]
     show en.2.2.1=0
     unfold Dx Sx at n2
     simp only[Af,Ah,Ac,An,C4,Ai]at n2
     cases hb:inR (IntKind.i64.wrap (c.2.2.1+(1:Int))) 0 4294967295 with
     |false=>
      rw[hb]at n2
      simp only[Bool.not_false,Az,Option.some.injEq]at n2
      rw[←n2]
     |true=>
      rw[hb]at n2
      simp only[Bool.not_true,Ap]at n2
      rw[Dv zq1,Afz,Af0]at n2
      simp only[Ai]at n2
      rw[Al zq1,A5]at n2
      simp only[Option.some.injEq]at n2
      rw[←n2]
    obtain⟨_,l1,l2⟩:=D4 o3
    have hmv:=A7h (u:=n.1+5) ho o3 hN zq0
    refine⟨moved c e3 (n.1+5),p3,0,rfl,?_,hpn _ g1,fun h=>(h rfl).elim,fun _=>⟨ho,hmv,hn',hfo,hse,hsn,rfl,rfl,g1,g2,.inr ⟨hN,rfl,hs0,q3,k2⟩⟩⟩
    simp only[Ax,moved,List.length_nil];omega
   ·simp only[show(z3 != (0:Int))=true by simpa using hz,Az]
    exact nope z3 hz
  cases hold:c.2.2.2.2.2.2.2.2.2.2.2.2.1 with
  |false=>exact nxt
  |true=>
   simp only[Az]
   obtain⟨v1,v2,v3⟩:=Abe f4 hold f6
   have old: ∃c' p z,(br (z2 != (0:Int)) (some (c,(([]:List YB),()),(z2,()))) (some ((c.1,c.2.1,c.2.2.1,c.2.2.2.1,c.2.2.2.2.1,c.2.2.2.2.2.1,c.2.2.2.2.2.2.1,e2.1,e2.2.1,e2.2.2.1,e2.2.2.2.1,e2.2.2.2.2.1,true,c.2.2.2.2.2.2.2.2.2.2.2.2.2.1,c.2.2.2.2.2.2.2.2.2.2.2.2.2.2.1,()),(p2,()),((0:Int),()))))=some (c',(p,()),(z,()))∧ChO c n.1 f c' p z:=by
    by_cases hz:z2=0
    ·subst hz
     simp only[show((0:Int) != (0:Int))=false from rfl,Ap]
     obtain⟨o1,o2,o3,o4,o5⟩:=E2.ok rfl
     obtain⟨g1,g2⟩:=pl (D4 o1).2.1 o5
     have hwo:=A25 ho hold o3 (by rw[o2];rfl)
     refine⟨_,p2,0,rfl,?_⟩
     rw[show((c.1,c.2.1,c.2.2.1,c.2.2.2.1,c.2.2.2.2.1,c.2.2.2.2.2.1,c.2.2.2.2.2.2.1,e2.1,e2.2.1,e2.2.2.1,e2.2.2.2.1,e2.2.2.2.2.1,true,c.2.2.2.2.2.2.2.2.2.2.2.2.2.1,c.2.2.2.2.2.2.2.2.2.2.2.2.2.2.1,()):Aj)=Acj c e2 by simp only[Acj,hold]]
     exact⟨by simp only[Ax,Acj];omega,hpn _ g1,fun h=>(h rfl).elim,fun _=>⟨ho,hwo,hn',hfo,hse,hsn,rfl,rfl,g1,g2,.inl ⟨rfl,rfl,rfl,rfl⟩⟩⟩
    ·simp only[show(z2 != (0:Int))=true by simpa using hz,Az]
     exact nope z2 hz
   cases q2:(f.2.2.2.2.2.2.2.1==c.2.2.2.2.2.2.2.1)with
   |false=>exact nxt
   |true=>
    simp only[Az]
    cases (c.2.2.2.2.2.2.2.2.2.2.2.2.2.1 != (-1:Int))with
    |false=>exact old
    |true=>
     simp only[Az]
     cases decide (n.1>c.2.2.2.2.2.2.2.2.2.2.2.2.2.1)with
     |true=>exact nope 9 zq3
     |false=>exact old
theorem A0k (c:Aj) (n:YI) (f:Au) (h:Ax c≤67000000) (h2:Aq f≤67108864) (w1:wfB f.2.2.2.1) (w2:wfB c.2.1):
  ∃c' p z,Ld c n f=some (c',(p,()),(z,()))∧Hn c n f=some (c',(p,()),(z,()))∧ChO c n.1 f c' p z:=by
 obtain⟨c',p,z,k1,k2⟩:=A26 c n f h h2 w1 w2
 exact⟨c',p,z,(A0j c n f h h2 w1 w2).trans k1,k1,k2⟩
theorem A5j (c:Aj) (n:YI) (h:Ax c≤67000000): ∃k b,Uo c n=some ((k,()),(b,()))∧Us c n=some ((k,()),(b,()))∧k.length≤Ax c∧(k.length=0∨k.length=32):=by
 have hc:=h
 simp only[Ax]at hc
 unfold Uo Aeo Us Ae0
 simp only[Af,Ah,Ac,An,List.length_nil,Nat.zero_add,List.nil_append]
 rw[Lr c zq5 zq6,Ls c]
 simp only[Ai]
 cases ho:Ci c with
 |false=>exact⟨[],false,rfl,rfl,by simp,.inl rfl⟩
 |true=>
 obtain⟨f1,f2,f3,f4,f5⟩:=Hs ho
 obtain⟨f6,f7,f8⟩:=D4 f3
 simp only[Bool.not_true,Ap]
 rw[Dc _ zq2,Dc _ zq2,Dc _ zq2,Al (p:=c.2.2.2.2.2.2.2.2.1.length≤4294967296) zq0,Al (p:=c.2.2.2.1.length≤4294967296) zq0,Al (p:=c.2.2.2.2.2.2.2.2.2.2.2.2.2.2.1.length≤4294967296) zq0]
 simp only[Ai,A5]
 have none: ∃k b,some ((([]:List YB),()),(false,()))=some ((k,()),(b,()))∧some ((([]:List YB),()),(false,()))=some ((k,()),(b,()))∧k.length≤Ax c∧(k.length=0∨k.length=32):=⟨[],false,rfl,rfl,by simp,.inl rfl⟩
 have rest: ∃k b,br (n.1==c.2.2.1) (some ((c.2.2.2.1,()),(true,()))) (br (decide ((c.2.2.2.2.2.2.2.2.2.2.2.2.2.2.1.length:Int)>(0:Int))) (br (n.1==IntKind.i64.wrap (c.2.2.1+(1:Int))) (some ((c.2.2.2.2.2.2.2.2.2.2.2.2.2.2.1,()),(true,()))) (some (([],()),(false,())))) (some (([],()),(false,()))))=some ((k,()),(b,()))∧br (n.1==c.2.2.1) (some ((c.2.2.2.1,()),(true,()))) (br (decide ((c.2.2.2.2.2.2.2.2.2.2.2.2.2.2.1.length:Int)>(0:Int))) (br (n.1==IntKind.i64.wrap (c.2.2.1+(1:Int))) (some ((c.2.2.2.2.2.2.2.2.2.2.2.2.2.2.1,()),(true,()))) (some (([],()),(false,())))) (some (([],()),(false,()))))=some ((k,()),(b,()))∧k.length≤Ax c∧(k.length=0∨k.length=32):=by
  cases (n.1==c.2.2.1)with
  |true=>exact⟨_,true,rfl,rfl,by simp only[Ax];omega,.inr f7⟩
  |false=>
   simp only[Ap]
   cases decide ((c.2.2.2.2.2.2.2.2.2.2.2.2.2.2.1.length:Int)>(0:Int))with
   |false=>exact none
   |true=>
    simp only[Az]
    cases (n.1==IntKind.i64.wrap (c.2.2.1+(1:Int)))with
    |false=>exact none
    |true=>exact⟨_,true,rfl,rfl,by simp only[Ax];omega,f5.imp id fun q=>q.2.1⟩
 cases hold:c.2.2.2.2.2.2.2.2.2.2.2.2.1 with
 |false=>exact rest
 |true=>
  simp only[Az]
  obtain⟨v1,v2,v3⟩:=Abe f4 hold f6
  cases (n.1==c.2.2.2.2.2.2.2.1)with
  |true=>exact⟨_,true,rfl,rfl,by simp only[Ax];omega,.inr (D4 v1).2.1⟩
  |false=>exact rest
def Gk (k s b:List YB):A2:=((16:Int),(0:Int),(0:Int),[],s,(0:Int),(0:Int),b,k,(0:Int),(0:Int),(0:Int),())
theorem Baa (k s b:List YB) (h1:k.length≤4294967296) (h2:s.length≤4294967296) (h3:b.length≤4294967296):Ana (k,()) (s,()) (b,())=some (Gk k s b):=by
 unfold Ana Am9
 simp (disch:=first|omega|(dsimp only;omega)) only[Ah,Ac,Dc,Ai]
 rfl
theorem Bab (k s b:List YB) (h1:k.length≤4294967296) (h2:s.length≤4294967296) (h3:b.length≤4294967296):Ank (k,()) (s,()) (b,())=some (Gk k s b):=by
 unfold Ank Anj
 simp only[An,Ac,List.length_nil,Nat.zero_add,List.nil_append]
 rw[Al h1,Al h2,Al h3]
 rfl
end
end Go.Proofs.YtmhhajdeafijmaaGreat
