/-
  That the program and the reference answer alike, in plain terms, and that the laws answer true.
-/
import Derived.Test.YtmhhajdeafijmaaGreatL30
namespace Go.Proofs.YtmhhajdeafijmaaGreat
open Go.RowKit
set_option linter.unusedVariables false
set_option linter.unusedSimpArgs false
set_option maxRecDepth 100000
set_option maxHeartbeats 4000000
noncomputable section
def Ab9 (c:Al) (e:YEp):Al:=(c.1,c.2.1,c.2.2.1,c.2.2.2.1,c.2.2.2.2.1,c.2.2.2.2.2.1,c.2.2.2.2.2.2.1,e.1,e.2.1,e.2.2.1,e.2.2.2.1,e.2.2.2.2.1,c.2.2.2.2.2.2.2.2.2.2.2.2.1,c.2.2.2.2.2.2.2.2.2.2.2.2.2.1,c.2.2.2.2.2.2.2.2.2.2.2.2.2.2.1,())
def Tn (c:Al) (u:Int):Al:=(c.1,c.2.1,c.2.2.1,c.2.2.2.1,c.2.2.2.2.1,c.2.2.2.2.2.1,c.2.2.2.2.2.2.1,c.2.2.2.2.2.2.2.1,c.2.2.2.2.2.2.2.2.1,c.2.2.2.2.2.2.2.2.2.1,c.2.2.2.2.2.2.2.2.2.2.1,c.2.2.2.2.2.2.2.2.2.2.2.1,c.2.2.2.2.2.2.2.2.2.2.2.2.1,u,c.2.2.2.2.2.2.2.2.2.2.2.2.2.2.1,())
def moved (c:Al) (e:YEp) (u:Int):Al:=(c.1,c.2.1,e.1,e.2.1,e.2.2.1,e.2.2.2.1,e.2.2.2.2.1,c.2.2.1,c.2.2.2.1,c.2.2.2.2.1,c.2.2.2.2.2.1,c.2.2.2.2.2.2.1,true,u,([]:List YB),())
def A49 (e:YEp) (n:Int):YEp:=(e.1,e.2.1,e.2.2.1,(G8 (e.2.2.2.1,e.2.2.2.2.1,()) n).1,(G8 (e.2.2.2.1,e.2.2.2.2.1,()) n).2.1,())
theorem A6z {e:YEp} {n:Int} (h:Dt e=true) (hm:Gi (e.2.2.2.1,e.2.2.2.2.1,()) n=true):Dt (A49 e n)=true:=by
 have hw:=Ar6 hm
 unfold Dt at h ⊢
 simp only[Bool.and_eq_true]at h ⊢
 exact⟨h.1,h.2.1,h.2.2.1,hw⟩
theorem EpO.ok {e:YEp} {r:Int} {f:Au} {e':YEp} {p:List YB} {z:Int} (h:EpO e r f e' p z) (hz:z=0):Dt e=true∧e'=A49 e f.2.2.2.2.2.2.2.2.1∧Dt e'=true∧f.2.2.2.2.2.2.2.1=e.1∧p=mix e.2.1 (C8 r f.2.2.2.1 f.2.2.2.2.2.2.2.1 f.2.2.2.2.2.2.2.2.1) f.2.2.2.2.2.2.2.2.2.1:=by
 obtain⟨h1,h2,h3,h4⟩:=h
 obtain⟨k1,k2,k3,k4,k5⟩:=h4 hz
 have k2':e'=A49 e f.2.2.2.2.2.2.2.2.1:=k2
 exact⟨k1,k2',by rw[k2'];exact A6z k1 k3,k4,k5⟩
theorem Ae5 {f:Au} (h:Co f=true) (hs:inR f.1 4 8=true):f.2.2.2.1.length=12∧(0≤f.2.2.2.2.2.2.2.1∧f.2.2.2.2.2.2.2.1≤4294967295)∧(0≤f.2.2.2.2.2.2.2.2.1∧f.2.2.2.2.2.2.2.2.1≤281474976710655)∧G7 f.1 (f.2.2.2.2.2.2.2.2.2.1.length:Int)=true∧f.2.2.2.2.2.2.2.2.2.1.length≤40:=by
 unfold Co at h
 rw[hs]at h
 simp only[cond_true,Bool.and_eq_true,Bl,beq_iff_eq]at h
 have hb:=h.2.2.2.2.2.2.2.2.1
 have:=Azd hb
 exact⟨by omega,h.2.2.2.2.2.2.1,h.2.2.2.2.2.2.2.1,hb,by omega⟩
def ChO (c:Al) (n:Int) (f:Au) (c':Al) (p:List YB) (z:Int):Prop:=
 Av c'≤Av c+200∧p.length≤Aq f∧(z≠0→c'=c∧p=[])∧
 (z=0→Bo c=true∧Bo c'=true∧(0≤n∧n≤1000000)∧Co f=true∧inR f.1 4 8=true∧f.2.2.2.1=c.2.1∧c'.1=c.1∧c'.2.1=c.2.1∧
  p.length=f.2.2.2.2.2.2.2.2.2.1.length∧wfB p∧
  ((c'.2.2.1=c.2.2.1∧Ir c'=Ir c∧c'.2.2.2.2.1=c.2.2.2.2.1∧c'.2.2.2.1=c.2.2.2.1)∨(c'.2.2.1=c.2.2.1+1∧Ir c'=[]∧c'.2.2.2.2.1=0∧f.2.2.2.2.2.2.2.1=c.2.2.1+1∧(Ir c).length=32)))
theorem Avj {c:Al} {u:Int} (h:Bo c=true) (hh:Qt c=true) (hu:0≤u∧u≤1000005):Bo (Tn c u)=true:=by
 unfold Bo at h ⊢
 simp only[Bool.not_not,Bool.and_eq_true]at h ⊢
 refine⟨h.1,h.2.1,h.2.2.1,?_,h.2.2.2.2⟩
 have ho:=h.2.2.2.1
 unfold H4 at ho ⊢
 rw[hh]at ho
 have hh':Qt (Tn c u)=true:=hh
 rw[hh']
 simp only[Bool.not_true,cond_false,Bool.not_not,Bool.and_eq_true,Bool.or_eq_true]at ho ⊢
 exact⟨ho.1,ho.2.1,.inl (Bl.2 hu)⟩
theorem A07 {c:Al} {e:YEp} (h:Bo c=true) (hh:Qt c=true) (he:Dt e=true) (h1:e.1=(Ob c).1):Bo (Ab9 c e)=true:=by
 unfold Bo at h ⊢
 simp only[Bool.not_not,Bool.and_eq_true]at h ⊢
 refine⟨h.1,h.2.1,h.2.2.1,?_,h.2.2.2.2⟩
 have ho:=h.2.2.2.1
 unfold H4 at ho ⊢
 rw[hh]at ho
 have hh':Qt (Ab9 c e)=true:=hh
 rw[hh']
 simp only[Bool.not_true,cond_false,Bool.not_not,Bool.and_eq_true,Bool.or_eq_true]at ho ⊢
 refine⟨he,?_,ho.2.2⟩
 have:=ho.2.1
 rw[←h1]at this
 exact this
theorem A5a {c:Al} {e:YEp} {u:Int} (h:Bo c=true) (he:Dt e=true) (h1:e.1=c.2.2.1+1) (hu:0≤u∧u≤1000005):Bo (moved c e u)=true:=by
 obtain⟨f1,f2,f3,f4,f5⟩:=Eh h
 have f6:=(Dh f3).1
 have f7:=(Dh he).1
 unfold Bo at h ⊢
 simp only[Bool.not_not,Bool.and_eq_true]at h ⊢
 refine⟨h.1,h.2.1,he,?_,?_⟩
 ·unfold H4
  have hh:Qt (moved c e u)=true:=rfl
  rw[hh]
  simp only[Bool.not_true,cond_false,Bool.not_not,Bool.and_eq_true,Bool.or_eq_true,Bool.not_eq_true',bne_eq_false_iff_eq]
  refine⟨f3,?_,.inl (Bl.2 hu)⟩
  show c.2.2.1=IntKind.i64.wrap (e.1-1)
  have f6':0≤c.2.2.1∧c.2.2.1≤4294967295:=f6
  rw[w64 zq0];omega
 ·show(((([]:List YB).length:Int)==0) || _)=true
  rfl
theorem A08 (c:Al) (n:YI) (f:Au) (h:Av c≤67000000) (h2:Aq f≤67108864) (w1:wfB f.2.2.2.1) (w2:wfB c.2.1):
  ∃c' p z,V_s_ChanOpen c n f=some (c',(p,()),(z,()))∧ChO c n.1 f c' p z:=by
 have hc:=h
 simp only[Av]at hc
 unfold V_s_ChanOpen T_s_ChanOpen
 simp only[Ae,Ai,Ac]
 rw[Md c zq0,Mb c,Cw,Rw,Mc,Wv]
 simp only[Ag]
 have nope: ∀z:Int,z≠0→ ∃c' p z',some (c,(([]:List YB),()),(z,()))=some (c',(p,()),(z',()))∧ChO c n.1 f c' p z':=fun z hz=>
  ⟨c,[],z,rfl,by omega,by simp,fun _=>⟨rfl,rfl⟩,fun h=>(hz h).elim⟩
 cases ho:Bo c with
 |false=>exact nope 1 zq4
 |true=>
 cases hn:inR n.1 0 1000000 with
 |false=>exact nope 1 zq4
 |true=>
 simp only[Bool.not_true,Am]
 cases hfo:Co f with
 |false=>exact nope 1 zq4
 |true=>
 simp only[Bool.not_true,Am]
 cases hse:inR f.1 4 8 with
 |false=>exact nope 1 zq4
 |true=>
 simp only[Bool.not_true,Am]
 have hn':=Bl.1 hn
 obtain⟨b1,b2,b3,b4,b5⟩:=Ae5 hfo hse
 obtain⟨f1,f2,f3,f4,f5⟩:=Eh ho
 obtain⟨f6,f7,f8⟩:=Dh f3
 have f6:0≤c.2.2.1∧c.2.2.1≤4294967295:=f6
 have hwN:IntKind.i64.wrap (c.2.2.1+(1:Int))=c.2.2.1+1:=w64 zq0
 have hw5:IntKind.i64.wrap (n.1+(5:Int))=n.1+5:=w64 zq0
 have hr:IntKind.i64.wrap ((1:Int)-c.1)=1-c.1:=w64 zq0
 obtain⟨e1,p1,z1,_,s1,E1⟩:=Ze (c.2.2.1,c.2.2.2.1,c.2.2.2.2.1,c.2.2.2.2.2.1,c.2.2.2.2.2.2.1,()) (1-c.1) f (by simp only[Bx];omega) zq0
 obtain⟨e2,p2,z2,_,s2,E2⟩:=Ze (c.2.2.2.2.2.2.2.1,c.2.2.2.2.2.2.2.2.1,c.2.2.2.2.2.2.2.2.2.1,c.2.2.2.2.2.2.2.2.2.2.1,c.2.2.2.2.2.2.2.2.2.2.2.1,()) (1-c.1) f (by simp only[Bx];omega) zq0
 obtain⟨en,n1,n2,n3⟩:=Al6 (IntKind.i64.wrap (c.2.2.1+(1:Int)),()) (c.2.2.2.2.2.2.2.2.2.2.2.2.2.2.1,())
 obtain⟨e3,p3,z3,_,s3,E3⟩:=Ze en (1-c.1) f zq0 zq0
 rw[hr,s1,s2,n2]
 simp only[Ag]
 rw[s3]
 simp only[Ag]
 cases hs:Ew f.2.2.2.1 c.2.1 with
 |false=>exact nope 8 zq4
 |true=>
 have hsn:=Avd w1 w2 hs
 simp only[Bool.not_true,Am]
 have pl: ∀ {k:List YB} {p:List YB},k.length=32→p=mix k (C8 (1-c.1) f.2.2.2.1 f.2.2.2.2.2.2.2.1 f.2.2.2.2.2.2.2.2.1) f.2.2.2.2.2.2.2.2.2.1→p.length=f.2.2.2.2.2.2.2.2.2.1.length∧wfB p:=fun {k p} hk hp=>by
  have hl:(C8 (1-c.1) f.2.2.2.1 f.2.2.2.2.2.2.2.1 f.2.2.2.2.2.2.2.2.1).length≤23:=by
   rw[J4];cases E0 (1-c.1) f.2.2.2.1 f.2.2.2.2.2.2.2.1 f.2.2.2.2.2.2.2.2.1<;>simp
  rw[hp]
  exact⟨Aze zq0 zq0 zq0,A6y _ _ _⟩
 have hnE1:Bx e1=Bx (H3 c):=E1.1
 have hnE2:Bx e2=Bx (Ob c):=E2.1
 simp only[Bx,H3]at hnE1
 simp only[Bx,Ob]at hnE2
 have hpn: ∀p:List YB,p.length=f.2.2.2.2.2.2.2.2.2.1.length→p.length≤Aq f:=fun p h=>by simp only[Aq];omega
 cases q1:(f.2.2.2.2.2.2.2.1==c.2.2.1)with
 |true=>
  simp only[A0]
  by_cases hz:z1=0
  ·subst hz
   simp only[show((0:Int) != (0:Int))=false from rfl,Am]
   obtain⟨o1,o2,o3,o4,o5⟩:=E1.ok rfl
   obtain⟨g1,g2⟩:=pl f7 o5
   have hN:e1.1=c.2.2.1:=by rw[o2];rfl
   have hcur:=Aop ho o3 hN
   have hk:e1.2.1=c.2.2.2.1:=by rw[o2];rfl
   have hq:e1.2.2.1=c.2.2.2.2.1:=by rw[o2];rfl
   have plain:ChO c n.1 f (Em c e1) p1 0:=⟨by simp only[Av,Em];omega,hpn _ g1,fun h=>(h rfl).elim,fun _=>⟨ho,hcur,hn',hfo,hse,hsn,rfl,rfl,g1,g2,.inl ⟨hN,rfl,hq,hk⟩⟩⟩
   cases hold:c.2.2.2.2.2.2.2.2.2.2.2.2.1 with
   |true=>
    simp only[A0]
    cases hu:(c.2.2.2.2.2.2.2.2.2.2.2.2.2.1==(-1:Int))with
    |true=>
     rw[A0,hw5]
     have hw:=Avj (c:=Em c e1) (u:=n.1+5) hcur hold zq0
     refine⟨_,p1,0,rfl,?_⟩
     rw[show((c.1,c.2.1,e1.1,e1.2.1,e1.2.2.1,e1.2.2.2.1,e1.2.2.2.2.1,c.2.2.2.2.2.2.2.1,c.2.2.2.2.2.2.2.2.1,c.2.2.2.2.2.2.2.2.2.1,c.2.2.2.2.2.2.2.2.2.2.1,c.2.2.2.2.2.2.2.2.2.2.2.1,true,n.1+5,c.2.2.2.2.2.2.2.2.2.2.2.2.2.2.1,()):Al)=Tn (Em c e1) (n.1+5) by simp only[Tn,Em,hold]]
     exact⟨by simp only[Av,Em,Tn];omega,hpn _ g1,fun h=>(h rfl).elim,fun _=>⟨ho,hw,hn',hfo,hse,hsn,rfl,rfl,g1,g2,.inl ⟨hN,rfl,hq,hk⟩⟩⟩
    |false=>
     rw[Am]
     refine⟨_,p1,0,rfl,?_⟩
     rw[show((c.1,c.2.1,e1.1,e1.2.1,e1.2.2.1,e1.2.2.2.1,e1.2.2.2.2.1,c.2.2.2.2.2.2.2.1,c.2.2.2.2.2.2.2.2.1,c.2.2.2.2.2.2.2.2.2.1,c.2.2.2.2.2.2.2.2.2.2.1,c.2.2.2.2.2.2.2.2.2.2.2.1,true,c.2.2.2.2.2.2.2.2.2.2.2.2.2.1,c.2.2.2.2.2.2.2.2.2.2.2.2.2.2.1,()):Al)=Em c e1 by simp only[Em,hold]]
     exact plain
   |false=>
    rw[Am]
    refine⟨_,p1,0,rfl,?_⟩
    rw[show((c.1,c.2.1,e1.1,e1.2.1,e1.2.2.1,e1.2.2.2.1,e1.2.2.2.2.1,c.2.2.2.2.2.2.2.1,c.2.2.2.2.2.2.2.2.1,c.2.2.2.2.2.2.2.2.2.1,c.2.2.2.2.2.2.2.2.2.2.1,c.2.2.2.2.2.2.2.2.2.2.2.1,false,c.2.2.2.2.2.2.2.2.2.2.2.2.2.1,c.2.2.2.2.2.2.2.2.2.2.2.2.2.2.1,()):Al)=Em c e1 by simp only[Em,hold]]
    exact plain
  ·simp only[show(z1 != (0:Int))=true by simpa using hz,A0]
   exact nope z1 hz
 |false=>
  simp only[Am]
  have nxt: ∃c' p z,(br (decide ((c.2.2.2.2.2.2.2.2.2.2.2.2.2.2.1.length:Int)>(0:Int))) (br (f.2.2.2.2.2.2.2.1==IntKind.i64.wrap (c.2.2.1+(1:Int))) (br (z3 != (0:Int)) (some (c,(([]:List YB),()),(z3,()))) (some ((c.1,c.2.1,e3.1,e3.2.1,e3.2.2.1,e3.2.2.2.1,e3.2.2.2.2.1,c.2.2.1,c.2.2.2.1,c.2.2.2.2.1,c.2.2.2.2.2.1,c.2.2.2.2.2.2.1,true,IntKind.i64.wrap (n.1+(5:Int)),([]:List YB),()),(p3,()),((0:Int),())))) (some (c,(([]:List YB),()),((8:Int),())))) (some (c,(([]:List YB),()),((8:Int),()))))=some (c',(p,()),(z,()))∧ChO c n.1 f c' p z:=by
   cases hnx:decide ((c.2.2.2.2.2.2.2.2.2.2.2.2.2.2.1.length:Int)>(0:Int))with
   |false=>exact nope 8 zq4
   |true=>
   have hnx':(c.2.2.2.2.2.2.2.2.2.2.2.2.2.2.1.length:Int)>0:=of_decide_eq_true hnx
   obtain⟨k1,k2,k3⟩:=f5.resolve_left zq0
   simp only[A0]
   cases q3:(f.2.2.2.2.2.2.2.1==IntKind.i64.wrap (c.2.2.1+(1:Int)))with
   |false=>exact nope 8 zq4
   |true=>
   rw[hwN]at q3
   have q3:f.2.2.2.2.2.2.2.1=c.2.2.1+1:=by simpa using q3
   simp only[A0]
   by_cases hz:z3=0
   ·subst hz
    simp only[show((0:Int) != (0:Int))=false from rfl,Am,hw5]
    obtain⟨o1,o2,o3,o4,o5⟩:=E3.ok rfl
    obtain⟨g1,g2⟩:=pl (Dh o1).2.1 o5
    have hN:e3.1=c.2.2.1+1:=by rw[o2];show en.1=_;rw[←o4,q3]
    have hs0:e3.2.2.1=0:=by
     rw[o2]
     show en.2.2.1=0
     unfold Ev S7 at n2
     simp only[Ae,Ai,Ac,Aj,Cw,Ag]at n2
     cases hb:inR (IntKind.i64.wrap (c.2.2.1+(1:Int))) 0 4294967295 with
     |false=>
      rw[hb]at n2
      simp only[Bool.not_false,A0,Option.some.injEq]at n2
      rw[←n2]
     |true=>
      rw[hb]at n2
      simp only[Bool.not_true,Am]at n2
      rw[C4 zq1,W2,W3]at n2
      simp only[Ag]at n2
      rw[Ak zq1,A8]at n2
      simp only[Option.some.injEq]at n2
      rw[←n2]
    obtain⟨_,l1,l2⟩:=Dh o3
    have hmv:=A5a (u:=n.1+5) ho o3 hN zq0
    refine⟨moved c e3 (n.1+5),p3,0,rfl,?_,hpn _ g1,fun h=>(h rfl).elim,fun _=>⟨ho,hmv,hn',hfo,hse,hsn,rfl,rfl,g1,g2,.inr ⟨hN,rfl,hs0,q3,k2⟩⟩⟩
    simp only[Av,moved,List.length_nil];omega
   ·simp only[show(z3 != (0:Int))=true by simpa using hz,A0]
    exact nope z3 hz
  cases hold:c.2.2.2.2.2.2.2.2.2.2.2.2.1 with
  |false=>exact nxt
  |true=>
   simp only[A0]
   obtain⟨v1,v2,v3⟩:=Aa9 f4 hold f6
   have old: ∃c' p z,(br (z2 != (0:Int)) (some (c,(([]:List YB),()),(z2,()))) (some ((c.1,c.2.1,c.2.2.1,c.2.2.2.1,c.2.2.2.2.1,c.2.2.2.2.2.1,c.2.2.2.2.2.2.1,e2.1,e2.2.1,e2.2.2.1,e2.2.2.2.1,e2.2.2.2.2.1,true,c.2.2.2.2.2.2.2.2.2.2.2.2.2.1,c.2.2.2.2.2.2.2.2.2.2.2.2.2.2.1,()),(p2,()),((0:Int),()))))=some (c',(p,()),(z,()))∧ChO c n.1 f c' p z:=by
    by_cases hz:z2=0
    ·subst hz
     simp only[show((0:Int) != (0:Int))=false from rfl,Am]
     obtain⟨o1,o2,o3,o4,o5⟩:=E2.ok rfl
     obtain⟨g1,g2⟩:=pl (Dh o1).2.1 o5
     have hwo:=A07 ho hold o3 (by rw[o2];rfl)
     refine⟨_,p2,0,rfl,?_⟩
     rw[show((c.1,c.2.1,c.2.2.1,c.2.2.2.1,c.2.2.2.2.1,c.2.2.2.2.2.1,c.2.2.2.2.2.2.1,e2.1,e2.2.1,e2.2.2.1,e2.2.2.2.1,e2.2.2.2.2.1,true,c.2.2.2.2.2.2.2.2.2.2.2.2.2.1,c.2.2.2.2.2.2.2.2.2.2.2.2.2.2.1,()):Al)=Ab9 c e2 by simp only[Ab9,hold]]
     exact⟨by simp only[Av,Ab9];omega,hpn _ g1,fun h=>(h rfl).elim,fun _=>⟨ho,hwo,hn',hfo,hse,hsn,rfl,rfl,g1,g2,.inl ⟨rfl,rfl,rfl,rfl⟩⟩⟩
    ·simp only[show(z2 != (0:Int))=true by simpa using hz,A0]
     exact nope z2 hz
   cases q2:(f.2.2.2.2.2.2.2.1==c.2.2.2.2.2.2.2.1)with
   |false=>exact nxt
   |true=>
    simp only[A0]
    cases (c.2.2.2.2.2.2.2.2.2.2.2.2.2.1 != (-1:Int))with
    |false=>exact old
    |true=>
     simp only[A0]
     cases decide (n.1>c.2.2.2.2.2.2.2.2.2.2.2.2.2.1)with
     |true=>exact nope 9 zq4
     |false=>exact old
theorem Akz (c:Al) (n:YI) (f:Au) (h:Av c≤67000000) (h2:Aq f≤67108864) (w1:wfB f.2.2.2.1) (w2:wfB c.2.1):
  ∃c' p z,Jk c n f=some (c',(p,()),(z,()))∧V_s_ChanOpen c n f=some (c',(p,()),(z,()))∧ChO c n.1 f c' p z:=by
 obtain⟨c',p,z,k1,k2⟩:=A08 c n f h h2 w1 w2
 exact⟨c',p,z,(Ax6 c n f h h2 w1 w2).trans k1,k1,k2⟩
theorem Ar7 (c:Al) (n:YI) (h:Av c≤67000000): ∃k b,Qb c n=some ((k,()),(b,()))∧V_s_KeyFor c n=some ((k,()),(b,()))∧k.length≤Av c∧(k.length=0∨k.length=32):=by
 have hc:=h
 simp only[Av]at hc
 unfold Qb Ad3 V_s_KeyFor T_s_KeyFor
 simp only[Ae,Ai,Ac,Aj,List.length_nil,Nat.zero_add,List.nil_append]
 rw[Ma c zq6 zq7,Mb c]
 simp only[Ag]
 cases ho:Bo c with
 |false=>exact⟨[],false,rfl,rfl,by simp,.inl rfl⟩
 |true=>
 obtain⟨f1,f2,f3,f4,f5⟩:=Eh ho
 obtain⟨f6,f7,f8⟩:=Dh f3
 simp only[Bool.not_true,Am]
 rw[Cu _ zq2,Cu _ zq2,Cu _ zq2,Ak (p:=c.2.2.2.2.2.2.2.2.1.length≤4294967296) zq0,Ak (p:=c.2.2.2.1.length≤4294967296) zq0,Ak (p:=c.2.2.2.2.2.2.2.2.2.2.2.2.2.2.1.length≤4294967296) zq0]
 simp only[Ag,A8]
 have none: ∃k b,some ((([]:List YB),()),(false,()))=some ((k,()),(b,()))∧some ((([]:List YB),()),(false,()))=some ((k,()),(b,()))∧k.length≤Av c∧(k.length=0∨k.length=32):=⟨[],false,rfl,rfl,by simp,.inl rfl⟩
 have rest: ∃k b,br (n.1==c.2.2.1) (some ((c.2.2.2.1,()),(true,()))) (br (decide ((c.2.2.2.2.2.2.2.2.2.2.2.2.2.2.1.length:Int)>(0:Int))) (br (n.1==IntKind.i64.wrap (c.2.2.1+(1:Int))) (some ((c.2.2.2.2.2.2.2.2.2.2.2.2.2.2.1,()),(true,()))) (some (([],()),(false,())))) (some (([],()),(false,()))))=some ((k,()),(b,()))∧br (n.1==c.2.2.1) (some ((c.2.2.2.1,()),(true,()))) (br (decide ((c.2.2.2.2.2.2.2.2.2.2.2.2.2.2.1.length:Int)>(0:Int))) (br (n.1==IntKind.i64.wrap (c.2.2.1+(1:Int))) (some ((c.2.2.2.2.2.2.2.2.2.2.2.2.2.2.1,()),(true,()))) (some (([],()),(false,())))) (some (([],()),(false,()))))=some ((k,()),(b,()))∧k.length≤Av c∧(k.length=0∨k.length=32):=by
  cases (n.1==c.2.2.1)with
  |true=>exact⟨_,true,rfl,rfl,by simp only[Av];omega,.inr f7⟩
  |false=>
   simp only[Am]
   cases decide ((c.2.2.2.2.2.2.2.2.2.2.2.2.2.2.1.length:Int)>(0:Int))with
   |false=>exact none
   |true=>
    simp only[A0]
    cases (n.1==IntKind.i64.wrap (c.2.2.1+(1:Int)))with
    |false=>exact none
    |true=>exact⟨_,true,rfl,rfl,by simp only[Av];omega,f5.imp id fun q=>q.2.1⟩
 cases hold:c.2.2.2.2.2.2.2.2.2.2.2.2.1 with
 |false=>exact rest
 |true=>
  simp only[A0]
  obtain⟨v1,v2,v3⟩:=Aa9 f4 hold f6
  cases (n.1==c.2.2.2.2.2.2.2.1)with
  |true=>exact⟨_,true,rfl,rfl,by simp only[Av];omega,.inr (Dh v1).2.1⟩
  |false=>exact rest
def Fo (k s b:List YB):B8:=((16:Int),(0:Int),(0:Int),[],s,(0:Int),(0:Int),b,k,(0:Int),(0:Int),(0:Int),())
theorem A3e (k s b:List YB) (h1:k.length≤4294967296) (h2:s.length≤4294967296) (h3:b.length≤4294967296):Aln (k,()) (s,()) (b,())=some (Fo k s b):=by
 unfold Aln Alm
 simp (disch:=first|omega|(dsimp only;omega)) only[Ai,Ac,Cu,Ag]
 rfl
theorem A74 (k s b:List YB) (h1:k.length≤4294967296) (h2:s.length≤4294967296) (h3:b.length≤4294967296):V_s_Took (k,()) (s,()) (b,())=some (Fo k s b):=by
 unfold V_s_Took T_s_Took
 simp only[Aj,Ac,List.length_nil,Nat.zero_add,List.nil_append]
 rw[Ak h1,Ak h2,Ak h3]
 rfl
end
end Go.Proofs.YtmhhajdeafijmaaGreat
