/-
  That the program and the reference answer alike, in plain terms, and that the laws answer true.
-/
import Derived.Test.YtmhhajdeafijmaaGreatL30
namespace Go.Proofs.YtmhhajdeafijmaaGreat
open Go.RowKit
set_option linter.unusedVariables false
set_option linter.unusedSimpArgs false
set_option maxRecDepth 100000
set_option maxHeartbeats 4000000
noncomputable section
def Ac7 (c:Aj) (e:YEp):Aj:=(c.1,c.2.1,c.2.2.1,c.2.2.2.1,c.2.2.2.2.1,c.2.2.2.2.2.1,c.2.2.2.2.2.2.1,e.1,e.2.1,e.2.2.1,e.2.2.2.1,e.2.2.2.2.1,c.2.2.2.2.2.2.2.2.2.2.2.2.1,c.2.2.2.2.2.2.2.2.2.2.2.2.2.1,c.2.2.2.2.2.2.2.2.2.2.2.2.2.2.1,())
def Uc (c:Aj) (u:Int):Aj:=(c.1,c.2.1,c.2.2.1,c.2.2.2.1,c.2.2.2.2.1,c.2.2.2.2.2.1,c.2.2.2.2.2.2.1,c.2.2.2.2.2.2.2.1,c.2.2.2.2.2.2.2.2.1,c.2.2.2.2.2.2.2.2.2.1,c.2.2.2.2.2.2.2.2.2.2.1,c.2.2.2.2.2.2.2.2.2.2.2.1,c.2.2.2.2.2.2.2.2.2.2.2.2.1,u,c.2.2.2.2.2.2.2.2.2.2.2.2.2.2.1,())
def moved (c:Aj) (e:YEp) (u:Int):Aj:=(c.1,c.2.1,e.1,e.2.1,e.2.2.1,e.2.2.2.1,e.2.2.2.2.1,c.2.2.1,c.2.2.2.1,c.2.2.2.2.1,c.2.2.2.2.2.1,c.2.2.2.2.2.2.1,true,u,([]:List YB),())
def A7f (e:YEp) (n:Int):YEp:=(e.1,e.2.1,e.2.2.1,(Hd (e.2.2.2.1,e.2.2.2.2.1,()) n).1,(Hd (e.2.2.2.1,e.2.2.2.2.1,()) n).2.1,())
theorem A85 {e:YEp} {n:Int} (h:Dy e=true) (hm:Gl (e.2.2.2.1,e.2.2.2.2.1,()) n=true):Dy (A7f e n)=true:=by
 have hw:=At5 hm
 unfold Dy at h ⊢
 simp only[Bool.and_eq_true]at h ⊢
 exact⟨h.1,h.2.1,h.2.2.1,hw⟩
theorem EpO.ok {e:YEp} {r:Int} {f:Aq} {e':YEp} {p:List YB} {z:Int} (h:EpO e r f e' p z) (hz:z=0):Dy e=true∧e'=A7f e f.2.2.2.2.2.2.2.2.1∧Dy e'=true∧f.2.2.2.2.2.2.2.1=e.1∧p=mix e.2.1 (Da r f.2.2.2.1 f.2.2.2.2.2.2.2.1 f.2.2.2.2.2.2.2.2.1) f.2.2.2.2.2.2.2.2.2.1:=by
 obtain⟨h1,h2,h3,h4⟩:=h
 obtain⟨k1,k2,k3,k4,k5⟩:=h4 hz
 have k2':e'=A7f e f.2.2.2.2.2.2.2.2.1:=k2
 exact⟨k1,k2',by rw[k2'];exact A85 k1 k3,k4,k5⟩
theorem Af5 {f:Aq} (h:Cq f=true) (hs:inR f.1 4 8=true):f.2.2.2.1.length=12∧(0≤f.2.2.2.2.2.2.2.1∧f.2.2.2.2.2.2.2.1≤4294967295)∧(0≤f.2.2.2.2.2.2.2.2.1∧f.2.2.2.2.2.2.2.2.1≤281474976710655)∧Hc f.1 (f.2.2.2.2.2.2.2.2.2.1.length:Int)=true∧f.2.2.2.2.2.2.2.2.2.1.length≤40:=by
 unfold Cq at h
 rw[hs]at h
 simp only[cond_true,Bool.and_eq_true,Bp,beq_iff_eq]at h
 have hb:=h.2.2.2.2.2.2.2.2.1
 have:=A1i hb
 exact⟨by omega,h.2.2.2.2.2.2.1,h.2.2.2.2.2.2.2.1,hb,by omega⟩
def ChO (c:Aj) (n:Int) (f:Aq) (c':Aj) (p:List YB) (z:Int):Prop:=
 Av c'≤Av c+200∧p.length≤Ar f∧(z≠0→c'=c∧p=[])∧
 (z=0→Bt c=true∧Bt c'=true∧(0≤n∧n≤1000000)∧Cq f=true∧inR f.1 4 8=true∧f.2.2.2.1=c.2.1∧c'.1=c.1∧c'.2.1=c.2.1∧
  p.length=f.2.2.2.2.2.2.2.2.2.1.length∧wfB p∧
  ((c'.2.2.1=c.2.2.1∧I0 c'=I0 c∧c'.2.2.2.2.1=c.2.2.2.2.1∧c'.2.2.2.1=c.2.2.2.1)∨(c'.2.2.1=c.2.2.1+1∧I0 c'=[]∧c'.2.2.2.2.1=0∧f.2.2.2.2.2.2.2.1=c.2.2.1+1∧(I0 c).length=32)))
theorem Axn {c:Aj} {u:Int} (h:Bt c=true) (hh:Re c=true) (hu:0≤u∧u≤1000005):Bt (Uc c u)=true:=by
 unfold Bt at h ⊢
 simp only[Bool.not_not,Bool.and_eq_true]at h ⊢
 refine⟨h.1,h.2.1,h.2.2.1,?_,h.2.2.2.2⟩
 have ho:=h.2.2.2.1
 unfold Ib at ho ⊢
 rw[hh]at ho
 have hh':Re (Uc c u)=true:=hh
 rw[hh']
 simp only[Bool.not_true,cond_false,Bool.not_not,Bool.and_eq_true,Bool.or_eq_true]at ho ⊢
 exact⟨ho.1,ho.2.1,.inl (Bp.2 hu)⟩
theorem A3d {c:Aj} {e:YEp} (h:Bt c=true) (hh:Re c=true) (he:Dy e=true) (h1:e.1=(Ov c).1):Bt (Ac7 c e)=true:=by
 unfold Bt at h ⊢
 simp only[Bool.not_not,Bool.and_eq_true]at h ⊢
 refine⟨h.1,h.2.1,h.2.2.1,?_,h.2.2.2.2⟩
 have ho:=h.2.2.2.1
 unfold Ib at ho ⊢
 rw[hh]at ho
 have hh':Re (Ac7 c e)=true:=hh
 rw[hh']
 simp only[Bool.not_true,cond_false,Bool.not_not,Bool.and_eq_true,Bool.or_eq_true]at ho ⊢
 refine⟨he,?_,ho.2.2⟩
 have:=ho.2.1
 rw[←h1]at this
 exact this
theorem A7g {c:Aj} {e:YEp} {u:Int} (h:Bt c=true) (he:Dy e=true) (h1:e.1=c.2.2.1+1) (hu:0≤u∧u≤1000005):Bt (moved c e u)=true:=by
 obtain⟨f1,f2,f3,f4,f5⟩:=El h
 have f6:=(Dl f3).1
 have f7:=(Dl he).1
 unfold Bt at h ⊢
 simp only[Bool.not_not,Bool.and_eq_true]at h ⊢
 refine⟨h.1,h.2.1,he,?_,?_⟩
 ·unfold Ib
  have hh:Re (moved c e u)=true:=rfl
  rw[hh]
  simp only[Bool.not_true,cond_false,Bool.not_not,Bool.and_eq_true,Bool.or_eq_true,Bool.not_eq_true',bne_eq_false_iff_eq]
  refine⟨f3,?_,.inl (Bp.2 hu)⟩
  show c.2.2.1=IntKind.i64.wrap (e.1-1)
  have f6':0≤c.2.2.1∧c.2.2.1≤4294967295:=f6
  rw[w64 zq0];omega
 ·show(((([]:List YB).length:Int)==0) || _)=true
  rfl
theorem A3e (c:Aj) (n:YI) (f:Aq) (h:Av c≤67000000) (h2:Ar f≤67108864) (w1:wfB f.2.2.2.1) (w2:wfB c.2.1):
  ∃c' p z,H5 c n f=some (c',(p,()),(z,()))∧ChO c n.1 f c' p z:=by
 have hc:=h
 simp only[Av]at hc
 unfold H5 Xh
 simp only[Ae,Ai,Ac]
 rw[Ms c zq0,Mq c,Cz,Su,Mr,Xi]
 simp only[Ag]
 have nope: ∀z:Int,z≠0→ ∃c' p z',some (c,(([]:List YB),()),(z,()))=some (c',(p,()),(z',()))∧ChO c n.1 f c' p z':=fun z hz=>
  ⟨c,[],z,rfl,by omega,by simp,fun _=>⟨rfl,rfl⟩,fun h=>(hz h).elim⟩
 cases ho:Bt c with
 |false=>exact nope 1 zq4
 |true=>
 cases hn:inR n.1 0 1000000 with
 |false=>exact nope 1 zq4
 |true=>
 simp only[Bool.not_true,An]
 cases hfo:Cq f with
 |false=>exact nope 1 zq4
 |true=>
 simp only[Bool.not_true,An]
 cases hse:inR f.1 4 8 with
 |false=>exact nope 1 zq4
 |true=>
 simp only[Bool.not_true,An]
 have hn':=Bp.1 hn
 obtain⟨b1,b2,b3,b4,b5⟩:=Af5 hfo hse
 obtain⟨f1,f2,f3,f4,f5⟩:=El ho
 obtain⟨f6,f7,f8⟩:=Dl f3
 have f6:0≤c.2.2.1∧c.2.2.1≤4294967295:=f6
 have hwN:IntKind.i64.wrap (c.2.2.1+(1:Int))=c.2.2.1+1:=w64 zq0
 have hw5:IntKind.i64.wrap (n.1+(5:Int))=n.1+5:=w64 zq0
 have hr:IntKind.i64.wrap ((1:Int)-c.1)=1-c.1:=w64 zq0
 obtain⟨e1,p1,z1,_,s1,E1⟩:=Z2 (c.2.2.1,c.2.2.2.1,c.2.2.2.2.1,c.2.2.2.2.2.1,c.2.2.2.2.2.2.1,()) (1-c.1) f (by simp only[B5];omega) zq0
 obtain⟨e2,p2,z2,_,s2,E2⟩:=Z2 (c.2.2.2.2.2.2.2.1,c.2.2.2.2.2.2.2.2.1,c.2.2.2.2.2.2.2.2.2.1,c.2.2.2.2.2.2.2.2.2.2.1,c.2.2.2.2.2.2.2.2.2.2.2.1,()) (1-c.1) f (by simp only[B5];omega) zq0
 obtain⟨en,n1,n2,n3⟩:=Anw (IntKind.i64.wrap (c.2.2.1+(1:Int)),()) (c.2.2.2.2.2.2.2.2.2.2.2.2.2.2.1,())
 obtain⟨e3,p3,z3,_,s3,E3⟩:=Z2 en (1-c.1) f zq0 zq0
 rw[hr,s1,s2,n2]
 simp only[Ag]
 rw[s3]
 simp only[Ag]
 cases hs:Ez f.2.2.2.1 c.2.1 with
 |false=>exact nope 8 zq4
 |true=>
 have hsn:=Axh w1 w2 hs
 simp only[Bool.not_true,An]
 have pl: ∀ {k:List YB} {p:List YB},k.length=32→p=mix k (Da (1-c.1) f.2.2.2.1 f.2.2.2.2.2.2.2.1 f.2.2.2.2.2.2.2.2.1) f.2.2.2.2.2.2.2.2.2.1→p.length=f.2.2.2.2.2.2.2.2.2.1.length∧wfB p:=fun {k p} hk hp=>by
  have hl:(Da (1-c.1) f.2.2.2.1 f.2.2.2.2.2.2.2.1 f.2.2.2.2.2.2.2.2.1).length≤23:=by
   rw[Ke];cases E7 (1-c.1) f.2.2.2.1 f.2.2.2.2.2.2.2.1 f.2.2.2.2.2.2.2.2.1<;>simp
  rw[hp]
  exact⟨A1j zq0 zq0 zq0,A84 _ _ _⟩
 have hnE1:B5 e1=B5 (Ia c):=E1.1
 have hnE2:B5 e2=B5 (Ov c):=E2.1
 simp only[B5,Ia]at hnE1
 simp only[B5,Ov]at hnE2
 have hpn: ∀p:List YB,p.length=f.2.2.2.2.2.2.2.2.2.1.length→p.length≤Ar f:=fun p h=>by simp only[Ar];omega
 cases q1:(f.2.2.2.2.2.2.2.1==c.2.2.1)with
 |true=>
  simp only[A0]
  by_cases hz:z1=0
  ·subst hz
   simp only[show((0:Int) != (0:Int))=false from rfl,An]
   obtain⟨o1,o2,o3,o4,o5⟩:=E1.ok rfl
   obtain⟨g1,g2⟩:=pl f7 o5
   have hN:e1.1=c.2.2.1:=by rw[o2];rfl
   have hcur:=Aqm ho o3 hN
   have hk:e1.2.1=c.2.2.2.1:=by rw[o2];rfl
   have hq:e1.2.2.1=c.2.2.2.2.1:=by rw[o2];rfl
   have plain:ChO c n.1 f (Ep c e1) p1 0:=⟨by simp only[Av,Ep];omega,hpn _ g1,fun h=>(h rfl).elim,fun _=>⟨ho,hcur,hn',hfo,hse,hsn,rfl,rfl,g1,g2,.inl ⟨hN,rfl,hq,hk⟩⟩⟩
   cases hold:c.2.2.2.2.2.2.2.2.2.2.2.2.1 with
   |true=>
    simp only[A0]
    cases hu:(c.2.2.2.2.2.2.2.2.2.2.2.2.2.1==(-1:Int))with
    |true=>
     rw[A0,hw5]
     have hw:=Axn (c:=Ep c e1) (u:=n.1+5) hcur hold zq0
     refine⟨_,p1,0,rfl,?_⟩
     rw[show((c.1,c.2.1,e1.1,e1.2.1,e1.2.2.1,e1.2.2.2.1,e1.2.2.2.2.1,c.2.2.2.2.2.2.2.1,c.2.2.2.2.2.2.2.2.1,c.2.2.2.2.2.2.2.2.2.1,c.2.2.2.2.2.2.2.2.2.2.1,c.2.2.2.2.2.2.2.2.2.2.2.1,true,n.1+5,c.2.2.2.2.2.2.2.2.2.2.2.2.2.2.1,()):Aj)=Uc (Ep c e1) (n.1+5) by simp only[Uc,Ep,hold]]
     exact⟨by simp only[Av,Ep,Uc];omega,hpn _ g1,fun h=>(h rfl).elim,fun _=>⟨ho,hw,hn',hfo,hse,hsn,rfl,rfl,g1,g2,.inl ⟨hN,rfl,hq,hk⟩⟩⟩
    |false=>
     rw[An]
     refine⟨_,p1,0,rfl,?_⟩
     rw[show((c.1,c.2.1,e1.1,e1.2.1,e1.2.2.1,e1.2.2.2.1,e1.2.2.2.2.1,c.2.2.2.2.2.2.2.1,c.2.2.2.2.2.2.2.2.1,c.2.2.2.2.2.2.2.2.2.1,c.2.2.2.2.2.2.2.2.2.2.1,c.2.2.2.2.2.2.2.2.2.2.2.1,true,c.2.2.2.2.2.2.2.2.2.2.2.2.2.1,c.2.2.2.2.2.2.2.2.2.2.2.2.2.2.1,()):Aj)=Ep c e1 by simp only[Ep,hold]]
     exact plain
   |false=>
    rw[An]
    refine⟨_,p1,0,rfl,?_⟩
    rw[show((c.1,c.2.1,e1.1,e1.2.1,e1.2.2.1,e1.2.2.2.1,e1.2.2.2.2.1,c.2.2.2.2.2.2.2.1,c.2.2.2.2.2.2.2.2.1,c.2.2.2.2.2.2.2.2.2.1,c.2.2.2.2.2.2.2.2.2.2.1,c.2.2.2.2.2.2.2.2.2.2.2.1,false,c.2.2.2.2.2.2.2.2.2.2.2.2.2.1,c.2.2.2.2.2.2.2.2.2.2.2.2.2.2.1,()):Aj)=Ep c e1 by simp only[Ep,hold]]
    exact plain
  ·simp only[show(z1 != (0:Int))=true by simpa using hz,A0]
   exact nope z1 hz
 |false=>
  simp only[An]
  have nxt: ∃c' p z,(br (decide ((c.2.2.2.2.2.2.2.2.2.2.2.2.2.2.1.length:Int)>(0:Int))) (br (f.2.2.2.2.2.2.2.1==IntKind.i64.wrap (c.2.2.1+(1:Int))) (br (z3 != (0:Int)) (some (c,(([]:List YB),()),(z3,()))) (some ((c.1,c.2.1,e3.1,e3.2.1,e3.2.2.1,e3.2.2.2.1,e3.2.2.2.2.1,c.2.2.1,c.2.2.2.1,c.2.2.2.2.1,c.2.2.2.2.2.1,c.2.2.2.2.2.2.1,true,IntKind.i64.wrap (n.1+(5:Int)),([]:List YB),()),(p3,()),((0:Int),())))) (some (c,(([]:List YB),()),((8:Int),())))) (some (c,(([]:List YB),()),((8:Int),()))))=some (c',(p,()),(z,()))∧ChO c n.1 f c' p z:=by
   cases hnx:decide ((c.2.2.2.2.2.2.2.2.2.2.2.2.2.2.1.length:Int)>(0:Int))with
   |false=>exact nope 8 zq4
   |true=>
   have hnx':(c.2.2.2.2.2.2.2.2.2.2.2.2.2.2.1.length:Int)>0:=of_decide_eq_true hnx
   obtain⟨k1,k2,k3⟩:=f5.resolve_left zq0
   simp only[A0]
   cases q3:(f.2.2.2.2.2.2.2.1==IntKind.i64.wrap (c.2.2.1+(1:Int)))with
   |false=>exact nope 8 zq4
   |true=>
   rw[hwN]at q3
   have q3:f.2.2.2.2.2.2.2.1=c.2.2.1+1:=by simpa using q3
   simp only[A0]
   by_cases hz:z3=0
   ·subst hz
    simp only[show((0:Int) != (0:Int))=false from rfl,An,hw5]
    obtain⟨o1,o2,o3,o4,o5⟩:=E3.ok rfl
    obtain⟨g1,g2⟩:=pl (Dl o1).2.1 o5
    have hN:e3.1=c.2.2.1+1:=by rw[o2];show en.1=_;rw[←o4,q3]
    have hs0:e3.2.2.1=0:=by
     rw[o2]
     show en.2.2.1=0
     unfold Dz Ts at n2
     simp only[Ae,Ai,Ac,Ak,Cz,Ag]at n2
     cases hb:inR (IntKind.i64.wrap (c.2.2.1+(1:Int))) 0 4294967295 with
     |false=>
      rw[hb]at n2
      simp only[Bool.not_false,A0,Option.some.injEq]at n2
      rw[←n2]
     |true=>
      rw[hb]at n2
      simp only[Bool.not_true,An]at n2
      rw[C7 zq1,Xp,Xq]at n2
      simp only[Ag]at n2
      rw[Am zq1,Ba]at n2
      simp only[Option.some.injEq]at n2
      rw[←n2]
    obtain⟨_,l1,l2⟩:=Dl o3
    have hmv:=A7g (u:=n.1+5) ho o3 hN zq0
    refine⟨moved c e3 (n.1+5),p3,0,rfl,?_,hpn _ g1,fun h=>(h rfl).elim,fun _=>⟨ho,hmv,hn',hfo,hse,hsn,rfl,rfl,g1,g2,.inr ⟨hN,rfl,hs0,q3,k2⟩⟩⟩
    simp only[Av,moved,List.length_nil];omega
   ·simp only[show(z3 != (0:Int))=true by simpa using hz,A0]
    exact nope z3 hz
  cases hold:c.2.2.2.2.2.2.2.2.2.2.2.2.1 with
  |false=>exact nxt
  |true=>
   simp only[A0]
   obtain⟨v1,v2,v3⟩:=Abz f4 hold f6
   have old: ∃c' p z,(br (z2 != (0:Int)) (some (c,(([]:List YB),()),(z2,()))) (some ((c.1,c.2.1,c.2.2.1,c.2.2.2.1,c.2.2.2.2.1,c.2.2.2.2.2.1,c.2.2.2.2.2.2.1,e2.1,e2.2.1,e2.2.2.1,e2.2.2.2.1,e2.2.2.2.2.1,true,c.2.2.2.2.2.2.2.2.2.2.2.2.2.1,c.2.2.2.2.2.2.2.2.2.2.2.2.2.2.1,()),(p2,()),((0:Int),()))))=some (c',(p,()),(z,()))∧ChO c n.1 f c' p z:=by
    by_cases hz:z2=0
    ·subst hz
     simp only[show((0:Int) != (0:Int))=false from rfl,An]
     obtain⟨o1,o2,o3,o4,o5⟩:=E2.ok rfl
     obtain⟨g1,g2⟩:=pl (Dl o1).2.1 o5
     have hwo:=A3d ho hold o3 (by rw[o2];rfl)
     refine⟨_,p2,0,rfl,?_⟩
     rw[show((c.1,c.2.1,c.2.2.1,c.2.2.2.1,c.2.2.2.2.1,c.2.2.2.2.2.1,c.2.2.2.2.2.2.1,e2.1,e2.2.1,e2.2.2.1,e2.2.2.2.1,e2.2.2.2.2.1,true,c.2.2.2.2.2.2.2.2.2.2.2.2.2.1,c.2.2.2.2.2.2.2.2.2.2.2.2.2.2.1,()):Aj)=Ac7 c e2 by simp only[Ac7,hold]]
     exact⟨by simp only[Av,Ac7];omega,hpn _ g1,fun h=>(h rfl).elim,fun _=>⟨ho,hwo,hn',hfo,hse,hsn,rfl,rfl,g1,g2,.inl ⟨rfl,rfl,rfl,rfl⟩⟩⟩
    ·simp only[show(z2 != (0:Int))=true by simpa using hz,A0]
     exact nope z2 hz
   cases q2:(f.2.2.2.2.2.2.2.1==c.2.2.2.2.2.2.2.1)with
   |false=>exact nxt
   |true=>
    simp only[A0]
    cases (c.2.2.2.2.2.2.2.2.2.2.2.2.2.1 != (-1:Int))with
    |false=>exact old
    |true=>
     simp only[A0]
     cases decide (n.1>c.2.2.2.2.2.2.2.2.2.2.2.2.2.1)with
     |true=>exact nope 9 zq4
     |false=>exact old
theorem Amj (c:Aj) (n:YI) (f:Aq) (h:Av c≤67000000) (h2:Ar f≤67108864) (w1:wfB f.2.2.2.1) (w2:wfB c.2.1):
  ∃c' p z,J1 c n f=some (c',(p,()),(z,()))∧H5 c n f=some (c',(p,()),(z,()))∧ChO c n.1 f c' p z:=by
 obtain⟨c',p,z,k1,k2⟩:=A3e c n f h h2 w1 w2
 exact⟨c',p,z,(A0a c n f h h2 w1 w2).trans k1,k1,k2⟩
theorem At6 (c:Aj) (n:YI) (h:Av c≤67000000): ∃k b,Q8 c n=some ((k,()),(b,()))∧Vq c n=some ((k,()),(b,()))∧k.length≤Av c∧(k.length=0∨k.length=32):=by
 have hc:=h
 simp only[Av]at hc
 unfold Q8 Ae1 Vq Ap3
 simp only[Ae,Ai,Ac,Ak,List.length_nil,Nat.zero_add,List.nil_append]
 rw[Mp c zq6 zq7,Mq c]
 simp only[Ag]
 cases ho:Bt c with
 |false=>exact⟨[],false,rfl,rfl,by simp,.inl rfl⟩
 |true=>
 obtain⟨f1,f2,f3,f4,f5⟩:=El ho
 obtain⟨f6,f7,f8⟩:=Dl f3
 simp only[Bool.not_true,An]
 rw[Cw _ zq2,Cw _ zq2,Cw _ zq2,Am (p:=c.2.2.2.2.2.2.2.2.1.length≤4294967296) zq0,Am (p:=c.2.2.2.1.length≤4294967296) zq0,Am (p:=c.2.2.2.2.2.2.2.2.2.2.2.2.2.2.1.length≤4294967296) zq0]
 simp only[Ag,Ba]
 have none: ∃k b,some ((([]:List YB),()),(false,()))=some ((k,()),(b,()))∧some ((([]:List YB),()),(false,()))=some ((k,()),(b,()))∧k.length≤Av c∧(k.length=0∨k.length=32):=⟨[],false,rfl,rfl,by simp,.inl rfl⟩
 have rest: ∃k b,br (n.1==c.2.2.1) (some ((c.2.2.2.1,()),(true,()))) (br (decide ((c.2.2.2.2.2.2.2.2.2.2.2.2.2.2.1.length:Int)>(0:Int))) (br (n.1==IntKind.i64.wrap (c.2.2.1+(1:Int))) (some ((c.2.2.2.2.2.2.2.2.2.2.2.2.2.2.1,()),(true,()))) (some (([],()),(false,())))) (some (([],()),(false,()))))=some ((k,()),(b,()))∧br (n.1==c.2.2.1) (some ((c.2.2.2.1,()),(true,()))) (br (decide ((c.2.2.2.2.2.2.2.2.2.2.2.2.2.2.1.length:Int)>(0:Int))) (br (n.1==IntKind.i64.wrap (c.2.2.1+(1:Int))) (some ((c.2.2.2.2.2.2.2.2.2.2.2.2.2.2.1,()),(true,()))) (some (([],()),(false,())))) (some (([],()),(false,()))))=some ((k,()),(b,()))∧k.length≤Av c∧(k.length=0∨k.length=32):=by
  cases (n.1==c.2.2.1)with
  |true=>exact⟨_,true,rfl,rfl,by simp only[Av];omega,.inr f7⟩
  |false=>
   simp only[An]
   cases decide ((c.2.2.2.2.2.2.2.2.2.2.2.2.2.2.1.length:Int)>(0:Int))with
   |false=>exact none
   |true=>
    simp only[A0]
    cases (n.1==IntKind.i64.wrap (c.2.2.1+(1:Int)))with
    |false=>exact none
    |true=>exact⟨_,true,rfl,rfl,by simp only[Av];omega,f5.imp id fun q=>q.2.1⟩
 cases hold:c.2.2.2.2.2.2.2.2.2.2.2.2.1 with
 |false=>exact rest
 |true=>
  simp only[A0]
  obtain⟨v1,v2,v3⟩:=Abz f4 hold f6
  cases (n.1==c.2.2.2.2.2.2.2.1)with
  |true=>exact⟨_,true,rfl,rfl,by simp only[Av];omega,.inr (Dl v1).2.1⟩
  |false=>exact rest
def Fr (k s b:List YB):A8:=((16:Int),(0:Int),(0:Int),[],s,(0:Int),(0:Int),b,k,(0:Int),(0:Int),(0:Int),())
theorem A5k (k s b:List YB) (h1:k.length≤4294967296) (h2:s.length≤4294967296) (h3:b.length≤4294967296):Ani (k,()) (s,()) (b,())=some (Fr k s b):=by
 unfold Ani Ana
 simp (disch:=first|omega|(dsimp only;omega)) only[Ai,Ac,Cw,Ag]
 rfl
theorem Baa (k s b:List YB) (h1:k.length≤4294967296) (h2:s.length≤4294967296) (h3:b.length≤4294967296):Ann (k,()) (s,()) (b,())=some (Fr k s b):=by
 unfold Ann Aw0
 simp only[Ak,Ac,List.length_nil,Nat.zero_add,List.nil_append]
 rw[Am h1,Am h2,Am h3]
 rfl
end
end Go.Proofs.YtmhhajdeafijmaaGreat
