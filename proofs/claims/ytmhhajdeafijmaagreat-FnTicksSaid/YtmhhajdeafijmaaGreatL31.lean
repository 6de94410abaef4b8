/-
  That the program and the reference answer alike, in plain terms, and that the laws answer true.
-/
import Derived.Test.YtmhhajdeafijmaaGreatL30
namespace Go.Proofs.YtmhhajdeafijmaaGreat
open Go.RowKit
set_option linter.unusedVariables false
set_option linter.unusedSimpArgs false
set_option maxRecDepth 100000
set_option maxHeartbeats 4000000
noncomputable section
def Afj (c:Af) (e:YEp):Af:=(c.1,c.2.1,c.2.2.1,c.2.2.2.1,c.2.2.2.2.1,c.2.2.2.2.2.1,c.2.2.2.2.2.2.1,e.1,e.2.1,e.2.2.1,e.2.2.2.1,e.2.2.2.2.1,c.2.2.2.2.2.2.2.2.2.2.2.2.1,c.2.2.2.2.2.2.2.2.2.2.2.2.2.1,c.2.2.2.2.2.2.2.2.2.2.2.2.2.2.1,())
def Tf (c:Af) (u:Int):Af:=(c.1,c.2.1,c.2.2.1,c.2.2.2.1,c.2.2.2.2.1,c.2.2.2.2.2.1,c.2.2.2.2.2.2.1,c.2.2.2.2.2.2.2.1,c.2.2.2.2.2.2.2.2.1,c.2.2.2.2.2.2.2.2.2.1,c.2.2.2.2.2.2.2.2.2.2.1,c.2.2.2.2.2.2.2.2.2.2.2.1,c.2.2.2.2.2.2.2.2.2.2.2.2.1,u,c.2.2.2.2.2.2.2.2.2.2.2.2.2.2.1,())
def moved (c:Af) (e:YEp) (u:Int):Af:=(c.1,c.2.1,e.1,e.2.1,e.2.2.1,e.2.2.2.1,e.2.2.2.2.1,c.2.2.1,c.2.2.2.1,c.2.2.2.2.1,c.2.2.2.2.2.1,c.2.2.2.2.2.2.1,true,u,([]:List YB),())
def A8w (e:YEp) (n:Int):YEp:=(e.1,e.2.1,e.2.2.1,(Gt (e.2.2.2.1,e.2.2.2.2.1,()) n).1,(Gt (e.2.2.2.1,e.2.2.2.2.1,()) n).2.1,())
theorem Bas {e:YEp} {n:Int} (h:Dm e=true) (hm:Fu (e.2.2.2.1,e.2.2.2.2.1,()) n=true):Dm (A8w e n)=true:=by
 have hw:=Av2 hm
 unfold Dm at h ⊢
 simp only[Bool.and_eq_true]at h ⊢
 exact⟨h.1,h.2.1,h.2.2.1,hw⟩
theorem EpO.ok {e:YEp} {r:Int} {f:Aa} {e':YEp} {p:List YB} {z:Int} (h:EpO e r f e' p z) (hz:z=0):Dm e=true∧e'=A8w e f.2.2.2.2.2.2.2.2.1∧Dm e'=true∧f.2.2.2.2.2.2.2.1=e.1∧p=mix e.2.1 (Bz r f.2.2.2.1 f.2.2.2.2.2.2.2.1 f.2.2.2.2.2.2.2.2.1) f.2.2.2.2.2.2.2.2.2.1:=by
 obtain⟨h1,h2,h3,h4⟩:=h
 obtain⟨k1,k2,k3,k4,k5⟩:=h4 hz
 have k2':e'=A8w e f.2.2.2.2.2.2.2.2.1:=k2
 exact⟨k1,k2',by rw[k2'];exact Bas k1 k3,k4,k5⟩
theorem Aim {f:Aa} (h:Bg f=true) (hs:inR f.1 4 8=true):f.2.2.2.1.length=12∧(0≤f.2.2.2.2.2.2.2.1∧f.2.2.2.2.2.2.2.1≤4294967295)∧(0≤f.2.2.2.2.2.2.2.2.1∧f.2.2.2.2.2.2.2.2.1≤281474976710655)∧Ft f.1 (f.2.2.2.2.2.2.2.2.2.1.length:Int)=true∧f.2.2.2.2.2.2.2.2.2.1.length≤40:=by
 unfold Bg at h
 rw[hs]at h
 simp only[cond_true,Bool.and_eq_true,A6,beq_iff_eq]at h
 have hb:=h.2.2.2.2.2.2.2.2.1
 have:=Auf hb
 exact⟨by omega,h.2.2.2.2.2.2.1,h.2.2.2.2.2.2.2.1,hb,by omega⟩
def ChO (c:Af) (n:Int) (f:Aa) (c':Af) (p:List YB) (z:Int):Prop:=
 Ar c'≤Ar c+200∧p.length≤As f∧(z≠0→c'=c∧p=[])∧
 (z=0→Bd c=true∧Bd c'=true∧(0≤n∧n≤1000000)∧Bg f=true∧inR f.1 4 8=true∧f.2.2.2.1=c.2.1∧c'.1=c.1∧c'.2.1=c.2.1∧
  p.length=f.2.2.2.2.2.2.2.2.2.1.length∧wfB p∧
  ((c'.2.2.1=c.2.2.1∧Bl c'=Bl c∧c'.2.2.2.2.1=c.2.2.2.2.1∧c'.2.2.2.1=c.2.2.2.1)∨(c'.2.2.1=c.2.2.1+1∧Bl c'=[]∧c'.2.2.2.2.1=0∧f.2.2.2.2.2.2.2.1=c.2.2.1+1∧(Bl c).length=32)))
theorem Azo {c:Af} {u:Int} (h:Bd c=true) (hh:Na c=true) (hu:0≤u∧u≤1000005):Bd (Tf c u)=true:=by
 unfold Bd at h ⊢
 simp only[Bool.not_not,Bool.and_eq_true]at h ⊢
 refine⟨h.1,h.2.1,h.2.2.1,?_,h.2.2.2.2⟩
 have ho:=h.2.2.2.1
 unfold Hu at ho ⊢
 rw[hh]at ho
 have hh':Na (Tf c u)=true:=hh
 rw[hh']
 simp only[Bool.not_true,cond_false,Bool.not_not,Bool.and_eq_true,Bool.or_eq_true]at ho ⊢
 exact⟨ho.1,ho.2.1,.inl (A6.2 hu)⟩
theorem A4w {c:Af} {e:YEp} (h:Bd c=true) (hh:Na c=true) (he:Dm e=true) (h1:e.1=(Mc c).1):Bd (Afj c e)=true:=by
 unfold Bd at h ⊢
 simp only[Bool.not_not,Bool.and_eq_true]at h ⊢
 refine⟨h.1,h.2.1,h.2.2.1,?_,h.2.2.2.2⟩
 have ho:=h.2.2.2.1
 unfold Hu at ho ⊢
 rw[hh]at ho
 have hh':Na (Afj c e)=true:=hh
 rw[hh']
 simp only[Bool.not_true,cond_false,Bool.not_not,Bool.and_eq_true,Bool.or_eq_true]at ho ⊢
 refine⟨he,?_,ho.2.2⟩
 have:=ho.2.1
 rw[←h1]at this
 exact this
theorem A8x {c:Af} {e:YEp} {u:Int} (h:Bd c=true) (he:Dm e=true) (h1:e.1=c.2.2.1+1) (hu:0≤u∧u≤1000005):Bd (moved c e u)=true:=by
 obtain⟨f1,f2,f3,f4,f5⟩:=Ff h
 have f6:=(Ec f3).1
 have f7:=(Ec he).1
 unfold Bd at h ⊢
 simp only[Bool.not_not,Bool.and_eq_true]at h ⊢
 refine⟨h.1,h.2.1,he,?_,?_⟩
 ·unfold Hu
  have hh:Na (moved c e u)=true:=rfl
  rw[hh]
  simp only[Bool.not_true,cond_false,Bool.not_not,Bool.and_eq_true,Bool.or_eq_true,Bool.not_eq_true',bne_eq_false_iff_eq]
  refine⟨f3,?_,.inl (A6.2 hu)⟩
  show c.2.2.1=IntKind.i64.wrap (e.1-1)
  have f6':0≤c.2.2.1∧c.2.2.1≤4294967295:=f6
  rw[w64 zq0];omega
 ·show(((([]:List YB).length:Int)==0) || _)=true
  rfl
theorem A4x (c:Af) (n:YI) (f:Aa) (h:Ar c≤67000000) (h2:As f≤67108864) (w1:wfB f.2.2.2.1) (w2:wfB c.2.1):
  ∃c' p z,Fc c n f=some (c',(p,()),(z,()))∧ChO c n.1 f c' p z:=by
 have hc:=h
 simp only[Ar]at hc
 unfold Fc K6
 simp only[Ag,Ai,Ad]
 rw[Tb c zq0,Rb c,Cb,Ln,Lo,Aao]
 simp only[Aj]
 have nope: ∀z:Int,z≠0→ ∃c' p z',some (c,(([]:List YB),()),(z,()))=some (c',(p,()),(z',()))∧ChO c n.1 f c' p z':=fun z hz=>
  ⟨c,[],z,rfl,by omega,by simp,fun _=>⟨rfl,rfl⟩,fun h=>(hz h).elim⟩
 cases ho:Bd c with
 |false=>exact nope 1 zq4
 |true=>
 cases hn:inR n.1 0 1000000 with
 |false=>exact nope 1 zq4
 |true=>
 simp only[Bool.not_true,An]
 cases hfo:Bg f with
 |false=>exact nope 1 zq4
 |true=>
 simp only[Bool.not_true,An]
 cases hse:inR f.1 4 8 with
 |false=>exact nope 1 zq4
 |true=>
 simp only[Bool.not_true,An]
 have hn':=A6.1 hn
 obtain⟨b1,b2,b3,b4,b5⟩:=Aim hfo hse
 obtain⟨f1,f2,f3,f4,f5⟩:=Ff ho
 obtain⟨f6,f7,f8⟩:=Ec f3
 have f6:0≤c.2.2.1∧c.2.2.1≤4294967295:=f6
 have hwN:IntKind.i64.wrap (c.2.2.1+(1:Int))=c.2.2.1+1:=w64 zq0
 have hw5:IntKind.i64.wrap (n.1+(5:Int))=n.1+5:=w64 zq0
 have hr:IntKind.i64.wrap ((1:Int)-c.1)=1-c.1:=w64 zq0
 obtain⟨e1,p1,z1,_,s1,E1⟩:=Ab0 (c.2.2.1,c.2.2.2.1,c.2.2.2.2.1,c.2.2.2.2.2.1,c.2.2.2.2.2.2.1,()) (1-c.1) f (by simp only[Bj];omega) zq0
 obtain⟨e2,p2,z2,_,s2,E2⟩:=Ab0 (c.2.2.2.2.2.2.2.1,c.2.2.2.2.2.2.2.2.1,c.2.2.2.2.2.2.2.2.2.1,c.2.2.2.2.2.2.2.2.2.2.1,c.2.2.2.2.2.2.2.2.2.2.2.1,()) (1-c.1) f (by simp only[Bj];omega) zq0
 obtain⟨en,n1,n2,n3⟩:=Aqf (IntKind.i64.wrap (c.2.2.1+(1:Int)),()) (c.2.2.2.2.2.2.2.2.2.2.2.2.2.2.1,())
 obtain⟨e3,p3,z3,_,s3,E3⟩:=Ab0 en (1-c.1) f zq0 zq0
 rw[hr,s1,s2,n2]
 simp only[Aj]
 rw[s3]
 simp only[Aj]
 cases hs:Dt f.2.2.2.1 c.2.1 with
 |false=>exact nope 8 zq4
 |true=>
 have hsn:=Azg w1 w2 hs
 simp only[Bool.not_true,An]
 have pl: ∀ {k:List YB} {p:List YB},k.length=32→p=mix k (Bz (1-c.1) f.2.2.2.1 f.2.2.2.2.2.2.2.1 f.2.2.2.2.2.2.2.2.1) f.2.2.2.2.2.2.2.2.2.1→p.length=f.2.2.2.2.2.2.2.2.2.1.length∧wfB p:=fun {k p} hk hp=>by
  have hl:(Bz (1-c.1) f.2.2.2.1 f.2.2.2.2.2.2.2.1 f.2.2.2.2.2.2.2.2.1).length≤23:=by
   rw[Ha];cases Dc (1-c.1) f.2.2.2.1 f.2.2.2.2.2.2.2.1 f.2.2.2.2.2.2.2.2.1<;>simp
  rw[hp]
  exact⟨Am5 zq0 zq0 zq0,Bar _ _ _⟩
 have hnE1:Bj e1=Bj (Gj c):=E1.1
 have hnE2:Bj e2=Bj (Mc c):=E2.1
 simp only[Bj,Gj]at hnE1
 simp only[Bj,Mc]at hnE2
 have hpn: ∀p:List YB,p.length=f.2.2.2.2.2.2.2.2.2.1.length→p.length≤As f:=fun p h=>by simp only[As];omega
 cases q1:(f.2.2.2.2.2.2.2.1==c.2.2.1)with
 |true=>
  simp only[Aw]
  by_cases hz:z1=0
  ·subst hz
   simp only[show((0:Int) != (0:Int))=false from rfl,An]
   obtain⟨o1,o2,o3,o4,o5⟩:=E1.ok rfl
   obtain⟨g1,g2⟩:=pl f7 o5
   have hN:e1.1=c.2.2.1:=by rw[o2];rfl
   have hcur:=Aso ho o3 hN
   have hk:e1.2.1=c.2.2.2.1:=by rw[o2];rfl
   have hq:e1.2.2.1=c.2.2.2.2.1:=by rw[o2];rfl
   have plain:ChO c n.1 f (Eb c e1) p1 0:=⟨by simp only[Ar,Eb];omega,hpn _ g1,fun h=>(h rfl).elim,fun _=>⟨ho,hcur,hn',hfo,hse,hsn,rfl,rfl,g1,g2,.inl ⟨hN,rfl,hq,hk⟩⟩⟩
   cases hold:c.2.2.2.2.2.2.2.2.2.2.2.2.1 with
   |true=>
    simp only[Aw]
    cases hu:(c.2.2.2.2.2.2.2.2.2.2.2.2.2.1==(-1:Int))with
    |true=>
     rw[Aw,hw5]
     have hw:=Azo (c:=Eb c e1) (u:=n.1+5) hcur hold zq0
     refine⟨_,p1,0,rfl,?_⟩
     rw[show((c.1,c.2.1,e1.1,e1.2.1,e1.2.2.1,e1.2.2.2.1,e1.2.2.2.2.1,c.2.2.2.2.2.2.2.1,c.2.2.2.2.2.2.2.2.1,c.2.2.2.2.2.2.2.2.2.1,c.2.2.2.2.2.2.2.2.2.2.1,c.2.2.2.2.2.2.2.2.2.2.2.1,true,n.1+5,c.2.2.2.2.2.2.2.2.2.2.2.2.2.2.1,()):Af)=Tf (Eb c e1) (n.1+5) by simp only[Tf,Eb,hold]]
     exact⟨by simp only[Ar,Eb,Tf];omega,hpn _ g1,fun h=>(h rfl).elim,fun _=>⟨ho,hw,hn',hfo,hse,hsn,rfl,rfl,g1,g2,.inl ⟨hN,rfl,hq,hk⟩⟩⟩
    |false=>
     rw[An]
     refine⟨_,p1,0,rfl,?_⟩
     rw[show((c.1,c.2.1,e1.1,e1.2.1,e1.2.2.1,e1.2.2.2.1,e1.2.2.2.2.1,c.2.2.2.2.2.2.2.1,c.2.2.2.2.2.2.2.2.1,c.2.2.2.2.2.2.2.2.2.1,c.2.2.2.2.2.2.2.2.2.2.1,c.2.2.2.2.2.2.2.2.2.2.2.1,true,c.2.2.2.2.2.2.2.2.2.2.2.2.2.1,c.2.2.2.2.2.2.2.2.2.2.2.2.2.2.1,()):Af)=Eb c e1 by simp only[Eb,hold]]
     exact plain
   |false=>
    rw[An]
    refine⟨_,p1,0,rfl,?_⟩
    rw[show((c.1,c.2.1,e1.1,e1.2.1,e1.2.2.1,e1.2.2.2.1,e1.2.2.2.2.1,c.2.2.2.2.2.2.2.1,c.2.2.2.2.2.2.2.2.1,c.2.2.2.2.2.2.2.2.2.1,c.2.2.2.2.2.2.2.2.2.2.1,c.2.2.2.2.2.2.2.2.2.2.2.1,false,c.2.2.2.2.2.2.2.2.2.2.2.2.2.1,c.2.2.2.2.2.2.2.2.2.2.2.2.2.2.1,()):Af)=Eb c e1 by simp only[Eb,hold]]
    exact plain
  ·simp only[show(z1 != (0:Int))=true by simpa using hz,Aw]
   exact nope z1 hz
 |false=>
  simp only[An]
  have nxt: ∃c' p z,(br (decide ((c.2.2.2.2.2.2.2.2.2.2.2.2.2.2.1.length:Int)>(0:Int))) (br (f.2.2.2.2.2.2.2.1==IntKind.i64.wrap (c.2.2.1+(1:Int))) (br (z3 != (0:Int)) (some (c,(([]:List YB),()),(z3,()))) (some ((c.1,c.2.1,e3.1,e3.2.1,e3.2.2.1,e3.2.2.2.1,e3.2.2.2.2.1,c.2.2.1,c.2.2.2.1,c.2.2.2.2.1,c.2.2.2.2.2.1,c.2.2.2.2.2.2.1,true,IntKind.i64.wrap (n.1+(5:Int)),([]:List YB),()),(p3,()),((0:Int),())))) (some (c,(([]:List YB),()),((8:Int),())))) (some (c,(([]:List YB),()),((8:Int),()))))=some (c',(p,()),(z,()))∧ChO c n.1 f c' p z:=by
   cases hnx:decide ((c.2.2.2.2.2.2.2.2.2.2.2.2.2.2.1.length:Int)>(0:Int))with
   |false=>exact nope 8 zq4
   |true=>
   have hnx':(c.2.2.2.2.2.2.2.2.2.2.2.2.2.2.1.length:Int)>0:=of_decide_eq_true hnx
   obtain⟨k1,k2,k3⟩:=f5.resolve_left zq0
   simp only[Aw]
   cases q3:(f.2.2.2.2.2.2.2.1==IntKind.i64.wrap (c.2.2.1+(1:Int)))with
   |false=>exact nope 8 zq4
   |true=>
   rw[hwN]at q3
   have q3:f.2.2.2.2.2.2.2.1=c.2.2.1+1:=by simpa using q3
   simp only[Aw]
   by_cases hz:z3=0
   ·subst hz
    simp only[show((0:Int) != (0:Int))=false from rfl,An,hw5]
    obtain⟨o1,o2,o3,o4,o5⟩:=E3.ok rfl
    obtain⟨g1,g2⟩:=pl (Ec o1).2.1 o5
    have hN:e3.1=c.2.2.1+1:=by rw[o2];show en.1=_;rw[←o4,q3]
    have hs0:e3.2.2.1=0:=by
     rw[o2]
     show en.2.2.1=0
     unfold Ey Sr at n2
     simp only[Ag,Ai,Ad,Ao,Cb,Aj]at n2
     cases hb:inR (IntKind.i64.wrap (c.2.2.1+(1:Int))) 0 4294967295 with
     |false=>
      rw[hb]at n2
      simp only[Bool.not_false,Aw,Option.some.injEq]at n2
      rw[←n2]
     |true=>
      rw[hb]at n2
      simp only[Bool.not_true,An]at n2
      rw[Cp zq1,Aaw,Aax]at n2
      simp only[Aj]at n2
      rw[Am zq1,A5]at n2
      simp only[Option.some.injEq]at n2
      rw[←n2]
    obtain⟨_,l1,l2⟩:=Ec o3
    have hmv:=A8x (u:=n.1+5) ho o3 hN zq0
    refine⟨moved c e3 (n.1+5),p3,0,rfl,?_,hpn _ g1,fun h=>(h rfl).elim,fun _=>⟨ho,hmv,hn',hfo,hse,hsn,rfl,rfl,g1,g2,.inr ⟨hN,rfl,hs0,q3,k2⟩⟩⟩
    simp only[Ar,moved,List.length_nil];omega
   ·simp only[show(z3 != (0:Int))=true by simpa using hz,Aw]
    exact nope z3 hz
  cases hold:c.2.2.2.2.2.2.2.2.2.2.2.2.1 with
  |false=>exact nxt
  |true=>
   simp only[Aw]
   obtain⟨v1,v2,v3⟩:=Ad5 f4 hold f6
   have old: ∃c' p z,(br (z2 != (0:Int)) (some (c,(([]:List YB),()),(z2,()))) (some ((c.1,c.2.1,c.2.2.1,c.2.2.2.1,c.2.2.2.2.1,c.2.2.2.2.2.1,c.2.2.2.2.2.2.1,e2.1,e2.2.1,e2.2.2.1,e2.2.2.2.1,e2.2.2.2.2.1,true,c.2.2.2.2.2.2.2.2.2.2.2.2.2.1,c.2.2.2.2.2.2.2.2.2.2.2.2.2.2.1,()),(p2,()),((0:Int),()))))=some (c',(p,()),(z,()))∧ChO c n.1 f c' p z:=by
    by_cases hz:z2=0
    ·subst hz
     simp only[show((0:Int) != (0:Int))=false from rfl,An]
     obtain⟨o1,o2,o3,o4,o5⟩:=E2.ok rfl
     obtain⟨g1,g2⟩:=pl (Ec o1).2.1 o5
     have hwo:=A4w ho hold o3 (by rw[o2];rfl)
     refine⟨_,p2,0,rfl,?_⟩
     rw[show((c.1,c.2.1,c.2.2.1,c.2.2.2.1,c.2.2.2.2.1,c.2.2.2.2.2.1,c.2.2.2.2.2.2.1,e2.1,e2.2.1,e2.2.2.1,e2.2.2.2.1,e2.2.2.2.2.1,true,c.2.2.2.2.2.2.2.2.2.2.2.2.2.1,c.2.2.2.2.2.2.2.2.2.2.2.2.2.2.1,()):Af)=Afj c e2 by simp only[Afj,hold]]
     exact⟨by simp only[Ar,Afj];omega,hpn _ g1,fun h=>(h rfl).elim,fun _=>⟨ho,hwo,hn',hfo,hse,hsn,rfl,rfl,g1,g2,.inl ⟨rfl,rfl,rfl,rfl⟩⟩⟩
    ·simp only[show(z2 != (0:Int))=true by simpa using hz,Aw]
     exact nope z2 hz
   cases q2:(f.2.2.2.2.2.2.2.1==c.2.2.2.2.2.2.2.1)with
   |false=>exact nxt
   |true=>
    simp only[Aw]
    cases (c.2.2.2.2.2.2.2.2.2.2.2.2.2.1 != (-1:Int))with
    |false=>exact old
    |true=>
     simp only[Aw]
     cases decide (n.1>c.2.2.2.2.2.2.2.2.2.2.2.2.2.1)with
     |true=>exact nope 9 zq4
     |false=>exact old
theorem A1z (c:Af) (n:YI) (f:Aa) (h:Ar c≤67000000) (h2:As f≤67108864) (w1:wfB f.2.2.2.1) (w2:wfB c.2.1):
  ∃c' p z,Jb c n f=some (c',(p,()),(z,()))∧Fc c n f=some (c',(p,()),(z,()))∧ChO c n.1 f c' p z:=by
 obtain⟨c',p,z,k1,k2⟩:=A4x c n f h h2 w1 w2
 exact⟨c',p,z,(Aov c n f h h2 w1 w2).trans k1,k1,k2⟩
theorem A68 (c:Af) (n:YI) (h:Ar c≤67000000): ∃k b,Xg c n=some ((k,()),(b,()))∧Xa c n=some ((k,()),(b,()))∧k.length≤Ar c∧(k.length=0∨k.length=32):=by
 have hc:=h
 simp only[Ar]at hc
 unfold Xg Ask Xa Agn
 simp only[Ag,Ai,Ad,Ao,List.length_nil,Nat.zero_add,List.nil_append]
 rw[Lm c zq7 zq8,Rb c]
 simp only[Aj]
 cases ho:Bd c with
 |false=>exact⟨[],false,rfl,rfl,by simp,.inl rfl⟩
 |true=>
 obtain⟨f1,f2,f3,f4,f5⟩:=Ff ho
 obtain⟨f6,f7,f8⟩:=Ec f3
 simp only[Bool.not_true,An]
 rw[Cd _ zq2,Cd _ zq2,Cd _ zq2,Am (p:=c.2.2.2.2.2.2.2.2.1.length≤4294967296) zq0,Am (p:=c.2.2.2.1.length≤4294967296) zq0,Am (p:=c.2.2.2.2.2.2.2.2.2.2.2.2.2.2.1.length≤4294967296) zq0]
 simp only[Aj,A5]
 have none: ∃k b,some ((([]:List YB),()),(false,()))=some ((k,()),(b,()))∧some ((([]:List YB),()),(false,()))=some ((k,()),(b,()))∧k.length≤Ar c∧(k.length=0∨k.length=32):=⟨[],false,rfl,rfl,by simp,.inl rfl⟩
 have rest: ∃k b,br (n.1==c.2.2.1) (some ((c.2.2.2.1,()),(true,()))) (br (decide ((c.2.2.2.2.2.2.2.2.2.2.2.2.2.2.1.length:Int)>(0:Int))) (br (n.1==IntKind.i64.wrap (c.2.2.1+(1:Int))) (some ((c.2.2.2.2.2.2.2.2.2.2.2.2.2.2.1,()),(true,()))) (some (([],()),(false,())))) (some (([],()),(false,()))))=some ((k,()),(b,()))∧br (n.1==c.2.2.1) (some ((c.2.2.2.1,()),(true,()))) (br (decide ((c.2.2.2.2.2.2.2.2.2.2.2.2.2.2.1.length:Int)>(0:Int))) (br (n.1==IntKind.i64.wrap (c.2.2.1+(1:Int))) (some ((c.2.2.2.2.2.2.2.2.2.2.2.2.2.2.1,()),(true,()))) (some (([],()),(false,())))) (some (([],()),(false,()))))=some ((k,()),(b,()))∧k.length≤Ar c∧(k.length=0∨k.length=32):=by
  cases (n.1==c.2.2.1)with
  |true=>exact⟨_,true,rfl,rfl,by simp only[Ar];omega,.inr f7⟩
  |false=>
   simp only[An]
   cases decide ((c.2.2.2.2.2.2.2.2.2.2.2.2.2.2.1.length:Int)>(0:Int))with
   |false=>exact none
   |true=>
    simp only[Aw]
    cases (n.1==IntKind.i64.wrap (c.2.2.1+(1:Int)))with
    |false=>exact none
    |true=>exact⟨_,true,rfl,rfl,by simp only[Ar];omega,f5.imp id fun q=>q.2.1⟩
 cases hold:c.2.2.2.2.2.2.2.2.2.2.2.2.1 with
 |false=>exact rest
 |true=>
  simp only[Aw]
  obtain⟨v1,v2,v3⟩:=Ad5 f4 hold f6
  cases (n.1==c.2.2.2.2.2.2.2.1)with
  |true=>exact⟨_,true,rfl,rfl,by simp only[Ar];omega,.inr (Ec v1).2.1⟩
  |false=>exact rest
def Ain (k s b:List YB):Ae:=((16:Int),(0:Int),(0:Int),[],s,(0:Int),(0:Int),b,k,(0:Int),(0:Int),(0:Int),())
theorem Bb2 (k s b:List YB) (h1:k.length≤4294967296) (h2:s.length≤4294967296) (h3:b.length≤4294967296):Ap8 (k,()) (s,()) (b,())=some (Ain k s b):=by
 unfold Ap8 Ayw
 simp (disch:=first|omega|(dsimp only;omega)) only[Ai,Ad,Cd,Aj]
 rfl
theorem Bb3 (k s b:List YB) (h1:k.length≤4294967296) (h2:s.length≤4294967296) (h3:b.length≤4294967296):Ap3 (k,()) (s,()) (b,())=some (Ain k s b):=by
 unfold Ap3 Apn
 simp only[Ao,Ad,List.length_nil,Nat.zero_add,List.nil_append]
 rw[Am h1,Am h2,Am h3]
 rfl
end
end Go.Proofs.YtmhhajdeafijmaaGreat
