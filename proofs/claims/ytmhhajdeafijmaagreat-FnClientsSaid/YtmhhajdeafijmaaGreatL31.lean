/-
  That the program and the reference answer alike, in plain terms, and that the laws answer true.
-/
import Derived.Test.YtmhhajdeafijmaaGreatL30
namespace Go.Proofs.YtmhhajdeafijmaaGreat
open Go.RowKit
set_option linter.unusedVariables false
set_option linter.unusedSimpArgs false
set_option maxRecDepth 100000
set_option maxHeartbeats 4000000
noncomputable section
def Ae2 (c:Ai) (e:YEp):Ai:=(c.1,c.2.1,c.2.2.1,c.2.2.2.1,c.2.2.2.2.1,c.2.2.2.2.2.1,c.2.2.2.2.2.2.1,e.1,e.2.1,e.2.2.1,e.2.2.2.1,e.2.2.2.2.1,c.2.2.2.2.2.2.2.2.2.2.2.2.1,c.2.2.2.2.2.2.2.2.2.2.2.2.2.1,c.2.2.2.2.2.2.2.2.2.2.2.2.2.2.1,())
def Sp (c:Ai) (u:Int):Ai:=(c.1,c.2.1,c.2.2.1,c.2.2.2.1,c.2.2.2.2.1,c.2.2.2.2.2.1,c.2.2.2.2.2.2.1,c.2.2.2.2.2.2.2.1,c.2.2.2.2.2.2.2.2.1,c.2.2.2.2.2.2.2.2.2.1,c.2.2.2.2.2.2.2.2.2.2.1,c.2.2.2.2.2.2.2.2.2.2.2.1,c.2.2.2.2.2.2.2.2.2.2.2.2.1,u,c.2.2.2.2.2.2.2.2.2.2.2.2.2.2.1,())
def moved (c:Ai) (e:YEp) (u:Int):Ai:=(c.1,c.2.1,e.1,e.2.1,e.2.2.1,e.2.2.2.1,e.2.2.2.2.1,c.2.2.1,c.2.2.2.1,c.2.2.2.2.1,c.2.2.2.2.2.1,c.2.2.2.2.2.2.1,true,u,([]:List YB),())
def A9t (e:YEp) (n:Int):YEp:=(e.1,e.2.1,e.2.2.1,(Hd (e.2.2.2.1,e.2.2.2.2.1,()) n).1,(Hd (e.2.2.2.1,e.2.2.2.2.1,()) n).2.1,())
theorem Bbg {e:YEp} {n:Int} (h:Es e=true) (hm:Ga (e.2.2.2.1,e.2.2.2.2.1,()) n=true):Es (A9t e n)=true:=by
 have hw:=A71 hm
 unfold Es at h ⊢
 simp only[Bool.and_eq_true]at h ⊢
 exact⟨h.1,h.2.1,h.2.2.1,hw⟩
theorem EpO.ok {e:YEp} {r:Int} {f:Ab} {e':YEp} {p:List YB} {z:Int} (h:EpO e r f e' p z) (hz:z=0):Es e=true∧e'=A9t e f.2.2.2.2.2.2.2.2.1∧Es e'=true∧f.2.2.2.2.2.2.2.1=e.1∧p=mix e.2.1 (Cr r f.2.2.2.1 f.2.2.2.2.2.2.2.1 f.2.2.2.2.2.2.2.2.1) f.2.2.2.2.2.2.2.2.2.1:=by
 obtain⟨h1,h2,h3,h4⟩:=h
 obtain⟨k1,k2,k3,k4,k5⟩:=h4 hz
 have k2':e'=A9t e f.2.2.2.2.2.2.2.2.1:=k2
 exact⟨k1,k2',by rw[k2'];exact Bbg k1 k3,k4,k5⟩
theorem Aio {f:Ab} (h:Cc f=true) (hs:inR f.1 4 8=true):f.2.2.2.1.length=12∧(0≤f.2.2.2.2.2.2.2.1∧f.2.2.2.2.2.2.2.1≤4294967295)∧(0≤f.2.2.2.2.2.2.2.2.1∧f.2.2.2.2.2.2.2.2.1≤281474976710655)∧G8 f.1 (f.2.2.2.2.2.2.2.2.2.1.length:Int)=true∧f.2.2.2.2.2.2.2.2.2.1.length≤40:=by
 unfold Cc at h
 rw[hs]at h
 simp only[cond_true,Bool.and_eq_true,Bt,beq_iff_eq]at h
 have hb:=h.2.2.2.2.2.2.2.2.1
 have:=A3p hb
 exact⟨by omega,h.2.2.2.2.2.2.1,h.2.2.2.2.2.2.2.1,hb,by omega⟩
def ChO (c:Ai) (n:Int) (f:Ab) (c':Ai) (p:List YB) (z:Int):Prop:=
 A0 c'≤A0 c+200∧p.length≤Ar f∧(z≠0→c'=c∧p=[])∧
 (z=0→B4 c=true∧B4 c'=true∧(0≤n∧n≤1000000)∧Cc f=true∧inR f.1 4 8=true∧f.2.2.2.1=c.2.1∧c'.1=c.1∧c'.2.1=c.2.1∧
  p.length=f.2.2.2.2.2.2.2.2.2.1.length∧wfB p∧
  ((c'.2.2.1=c.2.2.1∧C6 c'=C6 c∧c'.2.2.2.2.1=c.2.2.2.2.1∧c'.2.2.2.1=c.2.2.2.1)∨(c'.2.2.1=c.2.2.1+1∧C6 c'=[]∧c'.2.2.2.2.1=0∧f.2.2.2.2.2.2.2.1=c.2.2.1+1∧(C6 c).length=32)))
theorem Az1 {c:Ai} {u:Int} (h:B4 c=true) (hh:Pd c=true) (hu:0≤u∧u≤1000005):B4 (Sp c u)=true:=by
 unfold B4 at h ⊢
 simp only[Bool.not_not,Bool.and_eq_true]at h ⊢
 refine⟨h.1,h.2.1,h.2.2.1,?_,h.2.2.2.2⟩
 have ho:=h.2.2.2.1
 unfold Kl at ho ⊢
 rw[hh]at ho
 have hh':Pd (Sp c u)=true:=hh
 rw[hh']
 simp only[Bool.not_true,cond_false,Bool.not_not,Bool.and_eq_true,Bool.or_eq_true]at ho ⊢
 exact⟨ho.1,ho.2.1,.inl (Bt.2 hu)⟩
theorem A5k {c:Ai} {e:YEp} (h:B4 c=true) (hh:Pd c=true) (he:Es e=true) (h1:e.1=(L3 c).1):B4 (Ae2 c e)=true:=by
 unfold B4 at h ⊢
 simp only[Bool.not_not,Bool.and_eq_true]at h ⊢
 refine⟨h.1,h.2.1,h.2.2.1,?_,h.2.2.2.2⟩
 have ho:=h.2.2.2.1
 unfold Kl at ho ⊢
 rw[hh]at ho
 have hh':Pd (Ae2 c e)=true:=hh
 rw[hh']
 simp only[Bool.not_true,cond_false,Bool.not_not,Bool.and_eq_true,Bool.or_eq_true]at ho ⊢
 refine⟨he,?_,ho.2.2⟩
 have:=ho.2.1
 rw[←h1]at this
 exact this
theorem A9u {c:Ai} {e:YEp} {u:Int} (h:B4 c=true) (he:Es e=true) (h1:e.1=c.2.2.1+1) (hu:0≤u∧u≤1000005):B4 (moved c e u)=true:=by
 obtain⟨f1,f2,f3,f4,f5⟩:=He h
 have f6:=(Ek f3).1
 have f7:=(Ek he).1
 unfold B4 at h ⊢
 simp only[Bool.not_not,Bool.and_eq_true]at h ⊢
 refine⟨h.1,h.2.1,he,?_,?_⟩
 ·unfold Kl
  have hh:Pd (moved c e u)=true:=rfl
  rw[hh]
  simp only[Bool.not_true,cond_false,Bool.not_not,Bool.and_eq_true,Bool.or_eq_true,Bool.not_eq_true',bne_eq_false_iff_eq]
  refine⟨f3,?_,.inl (Bt.2 hu)⟩
  show c.2.2.1=IntKind.i64.wrap (e.1-1)
  have f6':0≤c.2.2.1∧c.2.2.1≤4294967295:=f6
  rw[w64 zq0];omega
 ·show(((([]:List YB).length:Int)==0) || _)=true
  rfl
theorem A5l (c:Ai) (n:YI) (f:Ab) (h:A0 c≤67000000) (h2:Ar f≤67108864) (w1:wfB f.2.2.2.1) (w2:wfB c.2.1):
  ∃c' p z,Gy c n f=some (c',(p,()),(z,()))∧ChO c n.1 f c' p z:=by
 have hc:=h
 simp only[A0]at hc
 unfold Gy Oc
 simp only[Aj,Al,Af]
 rw[Abe c zq0,Z5 c,Cz,Na,No,Ah5]
 simp only[An]
 have nope: ∀z:Int,z≠0→ ∃c' p z',some (c,(([]:List YB),()),(z,()))=some (c',(p,()),(z',()))∧ChO c n.1 f c' p z':=fun z hz=>
  ⟨c,[],z,rfl,by omega,by simp,fun _=>⟨rfl,rfl⟩,fun h=>(hz h).elim⟩
 cases ho:B4 c with
 |false=>exact nope 1 zq4
 |true=>
 cases hn:inR n.1 0 1000000 with
 |false=>exact nope 1 zq4
 |true=>
 simp only[Bool.not_true,Aw]
 cases hfo:Cc f with
 |false=>exact nope 1 zq4
 |true=>
 simp only[Bool.not_true,Aw]
 cases hse:inR f.1 4 8 with
 |false=>exact nope 1 zq4
 |true=>
 simp only[Bool.not_true,Aw]
 have hn':=Bt.1 hn
 obtain⟨b1,b2,b3,b4,b5⟩:=Aio hfo hse
 obtain⟨f1,f2,f3,f4,f5⟩:=He ho
 obtain⟨f6,f7,f8⟩:=Ek f3
 have f6:0≤c.2.2.1∧c.2.2.1≤4294967295:=f6
 have hwN:IntKind.i64.wrap (c.2.2.1+(1:Int))=c.2.2.1+1:=w64 zq0
 have hw5:IntKind.i64.wrap (n.1+(5:Int))=n.1+5:=w64 zq0
 have hr:IntKind.i64.wrap ((1:Int)-c.1)=1-c.1:=w64 zq0
 obtain⟨e1,p1,z1,_,s1,E1⟩:=Abi (c.2.2.1,c.2.2.2.1,c.2.2.2.2.1,c.2.2.2.2.2.1,c.2.2.2.2.2.2.1,()) (1-c.1) f (by simp only[Bp];omega) zq0
 obtain⟨e2,p2,z2,_,s2,E2⟩:=Abi (c.2.2.2.2.2.2.2.1,c.2.2.2.2.2.2.2.2.1,c.2.2.2.2.2.2.2.2.2.1,c.2.2.2.2.2.2.2.2.2.2.1,c.2.2.2.2.2.2.2.2.2.2.2.1,()) (1-c.1) f (by simp only[Bp];omega) zq0
 obtain⟨en,n1,n2,n3⟩:=Aqn (IntKind.i64.wrap (c.2.2.1+(1:Int)),()) (c.2.2.2.2.2.2.2.2.2.2.2.2.2.2.1,())
 obtain⟨e3,p3,z3,_,s3,E3⟩:=Abi en (1-c.1) f zq0 zq0
 rw[hr,s1,s2,n2]
 simp only[An]
 rw[s3]
 simp only[An]
 cases hs:Dq f.2.2.2.1 c.2.1 with
 |false=>exact nope 8 zq4
 |true=>
 have hsn:=Azu w1 w2 hs
 simp only[Bool.not_true,Aw]
 have pl: ∀ {k:List YB} {p:List YB},k.length=32→p=mix k (Cr (1-c.1) f.2.2.2.1 f.2.2.2.2.2.2.2.1 f.2.2.2.2.2.2.2.2.1) f.2.2.2.2.2.2.2.2.2.1→p.length=f.2.2.2.2.2.2.2.2.2.1.length∧wfB p:=fun {k p} hk hp=>by
  have hl:(Cr (1-c.1) f.2.2.2.1 f.2.2.2.2.2.2.2.1 f.2.2.2.2.2.2.2.2.1).length≤23:=by
   rw[I6];cases Eo (1-c.1) f.2.2.2.1 f.2.2.2.2.2.2.2.1 f.2.2.2.2.2.2.2.2.1<;>simp
  rw[hp]
  exact⟨A3q zq0 zq0 zq0,Bbf _ _ _⟩
 have hnE1:Bp e1=Bp (Hl c):=E1.1
 have hnE2:Bp e2=Bp (L3 c):=E2.1
 simp only[Bp,Hl]at hnE1
 simp only[Bp,L3]at hnE2
 have hpn: ∀p:List YB,p.length=f.2.2.2.2.2.2.2.2.2.1.length→p.length≤Ar f:=fun p h=>by simp only[Ar];omega
 cases q1:(f.2.2.2.2.2.2.2.1==c.2.2.1)with
 |true=>
  simp only[Az]
  by_cases hz:z1=0
  ·subst hz
   simp only[show((0:Int) != (0:Int))=false from rfl,Aw]
   obtain⟨o1,o2,o3,o4,o5⟩:=E1.ok rfl
   obtain⟨g1,g2⟩:=pl f7 o5
   have hN:e1.1=c.2.2.1:=by rw[o2];rfl
   have hcur:=As3 ho o3 hN
   have hk:e1.2.1=c.2.2.2.1:=by rw[o2];rfl
   have hq:e1.2.2.1=c.2.2.2.2.1:=by rw[o2];rfl
   have plain:ChO c n.1 f (Dz c e1) p1 0:=⟨by simp only[A0,Dz];omega,hpn _ g1,fun h=>(h rfl).elim,fun _=>⟨ho,hcur,hn',hfo,hse,hsn,rfl,rfl,g1,g2,.inl ⟨hN,rfl,hq,hk⟩⟩⟩
   cases hold:c.2.2.2.2.2.2.2.2.2.2.2.2.1 with
   |true=>
    simp only[Az]
    cases hu:(c.2.2.2.2.2.2.2.2.2.2.2.2.2.1==(-1:Int))with
    |true=>
     rw[Az,hw5]
     have hw:=Az1 (c:=Dz c e1) (u:=n.1+5) hcur hold zq0
     refine⟨_,p1,0,rfl,?_⟩
     rw[show((c.1,c.2.1,e1.1,e1.2.1,e1.2.2.1,e1.2.2.2.1,e1.2.2.2.2.1,c.2.2.2.2.2.2.2.1,c.2.2.2.2.2.2.2.2.1,c.2.2.2.2.2.2.2.2.2.1,c.2.2.2.2.2.2.2.2.2.2.1,c.2.2.2.2.2.2.2.2.2.2.2.1,true,n.1+5,c.2.2.2.2.2.2.2.2.2.2.2.2.2.2.1,()):Ai)=Sp (Dz c e1) (n.1+5) by simp only[Sp,Dz,hold]]
     exact⟨by simp only[A0,Dz,Sp];omega,hpn _ g1,fun h=>(h rfl).elim,fun _=>⟨ho,hw,hn',hfo,hse,hsn,rfl,rfl,g1,g2,.inl ⟨hN,rfl,hq,hk⟩⟩⟩
    |false=>
     rw[Aw]
     refine⟨_,p1,0,rfl,?_⟩
     rw[show((c.1,c.2.1,e1.1,e1.2.1,e1.2.2.1,e1.2.2.2.1,e1.2.2.2.2.1,c.2.2.2.2.2.2.2.1,c.2.2.2.2.2.2.2.2.1,c.2.2.2.2.2.2.2.2.2.1,c.2.2.2.2.2.2.2.2.2.2.1,c.2.2.2.2.2.2.2.2.2.2.2.1,true,c.2.2.2.2.2.2.2.2.2.2.2.2.2.1,c.2.2.2.2.2.2.2.2.2.2.2.2.2.2.1,()):Ai)=Dz c e1 by simp only[Dz,hold]]
     exact plain
   |false=>
    rw[Aw]
    refine⟨_,p1,0,rfl,?_⟩
    rw[show((c.1,c.2.1,e1.1,e1.2.1,e1.2.2.1,e1.2.2.2.1,e1.2.2.2.2.1,c.2.2.2.2.2.2.2.1,c.2.2.2.2.2.2.2.2.1,c.2.2.2.2.2.2.2.2.2.1,c.2.2.2.2.2.2.2.2.2.2.1,c.2.2.2.2.2.2.2.2.2.2.2.1,false,c.2.2.2.2.2.2.2.2.2.2.2.2.2.1,c.2.2.2.2.2.2.2.2.2.2.2.2.2.2.1,()):Ai)=Dz c e1 by simp only[Dz,hold]]
    exact plain
  ·simp only[show(z1 != (0:Int))=true by simpa using hz,Az]
   exact nope z1 hz
 |false=>
  simp only[Aw]
  have nxt: ∃c' p z,(br (decide ((c.2.2.2.2.2.2.2.2.2.2.2.2.2.2.1.length:Int)>(0:Int))) (br (f.2.2.2.2.2.2.2.1==IntKind.i64.wrap (c.2.2.1+(1:Int))) (br (z3 != (0:Int)) (some (c,(([]:List YB),()),(z3,()))) (some ((c.1,c.2.1,e3.1,e3.2.1,e3.2.2.1,e3.2.2.2.1,e3.2.2.2.2.1,c.2.2.1,c.2.2.2.1,c.2.2.2.2.1,c.2.2.2.2.2.1,c.2.2.2.2.2.2.1,true,IntKind.i64.wrap (n.1+(5:Int)),([]:List YB),()),(p3,()),((0:Int),())))) (some (c,(([]:List YB),()),((8:Int),())))) (some (c,(([]:List YB),()),((8:Int),()))))=some (c',(p,()),(z,()))∧ChO c n.1 f c' p z:=by
   cases hnx:decide ((c.2.2.2.2.2.2.2.2.2.2.2.2.2.2.1.length:Int)>(0:Int))with
   |false=>exact nope 8 zq4
   |true=>
   have hnx':(c.2.2.2.2.2.2.2.2.2.2.2.2.2.2.1.length:Int)>0:=of_decide_eq_true hnx
   obtain⟨k1,k2,k3⟩:=f5.resolve_left zq0
   simp only[Az]
   cases q3:(f.2.2.2.2.2.2.2.1==IntKind.i64.wrap (c.2.2.1+(1:Int)))with
   |false=>exact nope 8 zq4
   |true=>
   rw[hwN]at q3
   have q3:f.2.2.2.2.2.2.2.1=c.2.2.1+1:=by simpa using q3
   simp only[Az]
   by_cases hz:z3=0
   ·subst hz
    simp only[show((0:Int) != (0:Int))=false from rfl,Aw,hw5]
    obtain⟨o1,o2,o3,o4,o5⟩:=E3.ok rfl
    obtain⟨g1,g2⟩:=pl (Ek o1).2.1 o5
    have hN:e3.1=c.2.2.1+1:=by rw[o2];show en.1=_;rw[←o4,q3]
    have hs0:e3.2.2.1=0:=by
     rw[o2]
     show en.2.2.1=0
     unfold Dr Rz at n2
     simp only[Aj,Al,Af,Aq,Cz,An]at n2
     cases hb:inR (IntKind.i64.wrap (c.2.2.1+(1:Int))) 0 4294967295 with
     |false=>
      rw[hb]at n2
      simp only[Bool.not_false,Az,Option.some.injEq]at n2
      rw[←n2]
     |true=>
      rw[hb]at n2
      simp only[Bool.not_true,Aw]at n2
      rw[Cp zq1,Aij,Aik]at n2
      simp only[An]at n2
      rw[Ap zq1,Bd]at n2
      simp only[Option.some.injEq]at n2
      rw[←n2]
    obtain⟨_,l1,l2⟩:=Ek o3
    have hmv:=A9u (u:=n.1+5) ho o3 hN zq0
    refine⟨moved c e3 (n.1+5),p3,0,rfl,?_,hpn _ g1,fun h=>(h rfl).elim,fun _=>⟨ho,hmv,hn',hfo,hse,hsn,rfl,rfl,g1,g2,.inr ⟨hN,rfl,hs0,q3,k2⟩⟩⟩
    simp only[A0,moved,List.length_nil];omega
   ·simp only[show(z3 != (0:Int))=true by simpa using hz,Az]
    exact nope z3 hz
  cases hold:c.2.2.2.2.2.2.2.2.2.2.2.2.1 with
  |false=>exact nxt
  |true=>
   simp only[Az]
   obtain⟨v1,v2,v3⟩:=Adr f4 hold f6
   have old: ∃c' p z,(br (z2 != (0:Int)) (some (c,(([]:List YB),()),(z2,()))) (some ((c.1,c.2.1,c.2.2.1,c.2.2.2.1,c.2.2.2.2.1,c.2.2.2.2.2.1,c.2.2.2.2.2.2.1,e2.1,e2.2.1,e2.2.2.1,e2.2.2.2.1,e2.2.2.2.2.1,true,c.2.2.2.2.2.2.2.2.2.2.2.2.2.1,c.2.2.2.2.2.2.2.2.2.2.2.2.2.2.1,()),(p2,()),((0:Int),()))))=some (c',(p,()),(z,()))∧ChO c n.1 f c' p z:=by
    by_cases hz:z2=0
    ·subst hz
     simp only[show((0:Int) != (0:Int))=false from rfl,Aw]
     obtain⟨o1,o2,o3,o4,o5⟩:=E2.ok rfl
     obtain⟨g1,g2⟩:=pl (Ek o1).2.1 o5
     have hwo:=A5k ho hold o3 (by rw[o2];rfl)
     refine⟨_,p2,0,rfl,?_⟩
     rw[show((c.1,c.2.1,c.2.2.1,c.2.2.2.1,c.2.2.2.2.1,c.2.2.2.2.2.1,c.2.2.2.2.2.2.1,e2.1,e2.2.1,e2.2.2.1,e2.2.2.2.1,e2.2.2.2.2.1,true,c.2.2.2.2.2.2.2.2.2.2.2.2.2.1,c.2.2.2.2.2.2.2.2.2.2.2.2.2.2.1,()):Ai)=Ae2 c e2 by simp only[Ae2,hold]]
     exact⟨by simp only[A0,Ae2];omega,hpn _ g1,fun h=>(h rfl).elim,fun _=>⟨ho,hwo,hn',hfo,hse,hsn,rfl,rfl,g1,g2,.inl ⟨rfl,rfl,rfl,rfl⟩⟩⟩
    ·simp only[show(z2 != (0:Int))=true by simpa using hz,Az]
     exact nope z2 hz
   cases q2:(f.2.2.2.2.2.2.2.1==c.2.2.2.2.2.2.2.1)with
   |false=>exact nxt
   |true=>
    simp only[Az]
    cases (c.2.2.2.2.2.2.2.2.2.2.2.2.2.1 != (-1:Int))with
    |false=>exact old
    |true=>
     simp only[Az]
     cases decide (n.1>c.2.2.2.2.2.2.2.2.2.2.2.2.2.1)with
     |true=>exact nope 9 zq4
     |false=>exact old
theorem A2o (c:Ai) (n:YI) (f:Ab) (h:A0 c≤67000000) (h2:Ar f≤67108864) (w1:wfB f.2.2.2.1) (w2:wfB c.2.1):
  ∃c' p z,Ky c n f=some (c',(p,()),(z,()))∧Gy c n f=some (c',(p,()),(z,()))∧ChO c n.1 f c' p z:=by
 obtain⟨c',p,z,k1,k2⟩:=A5l c n f h h2 w1 w2
 exact⟨c',p,z,(A2n c n f h h2 w1 w2).trans k1,k1,k2⟩
theorem A72 (c:Ai) (n:YI) (h:A0 c≤67000000): ∃k b,Wn c n=some ((k,()),(b,()))∧Wh c n=some ((k,()),(b,()))∧k.length≤A0 c∧(k.length=0∨k.length=32):=by
 have hc:=h
 simp only[A0]at hc
 unfold Wn Ahi Wh Af3
 simp only[Aj,Al,Af,Aq,List.length_nil,Nat.zero_add,List.nil_append]
 rw[Z4 c (by dsimp only[Hl];omega) (by dsimp only[L3];omega),Z5 c]
 simp only[An]
 cases ho:B4 c with
 |false=>exact⟨[],false,rfl,rfl,by simp,.inl rfl⟩
 |true=>
 obtain⟨f1,f2,f3,f4,f5⟩:=He ho
 obtain⟨f6,f7,f8⟩:=Ek f3
 simp only[Bool.not_true,Aw]
 rw[C4 _ zq2,C4 _ zq2,C4 _ zq2,Ap (p:=c.2.2.2.2.2.2.2.2.1.length≤4294967296) zq0,Ap (p:=c.2.2.2.1.length≤4294967296) zq0,Ap (p:=c.2.2.2.2.2.2.2.2.2.2.2.2.2.2.1.length≤4294967296) zq0]
 simp only[An,Bd]
 have none: ∃k b,some ((([]:List YB),()),(false,()))=some ((k,()),(b,()))∧some ((([]:List YB),()),(false,()))=some ((k,()),(b,()))∧k.length≤A0 c∧(k.length=0∨k.length=32):=⟨[],false,rfl,rfl,by simp,.inl rfl⟩
 have rest: ∃k b,br (n.1==c.2.2.1) (some ((c.2.2.2.1,()),(true,()))) (br (decide ((c.2.2.2.2.2.2.2.2.2.2.2.2.2.2.1.length:Int)>(0:Int))) (br (n.1==IntKind.i64.wrap (c.2.2.1+(1:Int))) (some ((c.2.2.2.2.2.2.2.2.2.2.2.2.2.2.1,()),(true,()))) (some (([],()),(false,())))) (some (([],()),(false,()))))=some ((k,()),(b,()))∧br (n.1==c.2.2.1) (some ((c.2.2.2.1,()),(true,()))) (br (decide ((c.2.2.2.2.2.2.2.2.2.2.2.2.2.2.1.length:Int)>(0:Int))) (br (n.1==IntKind.i64.wrap (c.2.2.1+(1:Int))) (some ((c.2.2.2.2.2.2.2.2.2.2.2.2.2.2.1,()),(true,()))) (some (([],()),(false,())))) (some (([],()),(false,()))))=some ((k,()),(b,()))∧k.length≤A0 c∧(k.length=0∨k.length=32):=by
  cases (n.1==c.2.2.1)with
  |true=>exact⟨_,true,rfl,rfl,by simp only[A0];omega,.inr f7⟩
  |false=>
   simp only[Aw]
   cases decide ((c.2.2.2.2.2.2.2.2.2.2.2.2.2.2.1.length:Int)>(0:Int))with
   |false=>exact none
   |true=>
    simp only[Az]
    cases (n.1==IntKind.i64.wrap (c.2.2.1+(1:Int)))with
    |false=>exact none
    |true=>exact⟨_,true,rfl,rfl,by simp only[A0];omega,f5.imp id fun q=>q.2.1⟩
 cases hold:c.2.2.2.2.2.2.2.2.2.2.2.2.1 with
 |false=>exact rest
 |true=>
  simp only[Az]
  obtain⟨v1,v2,v3⟩:=Adr f4 hold f6
  cases (n.1==c.2.2.2.2.2.2.2.1)with
  |true=>exact⟨_,true,rfl,rfl,by simp only[A0];omega,.inr (Ek v1).2.1⟩
  |false=>exact rest
def Aip (k s b:List YB):Ah:=((16:Int),(0:Int),(0:Int),[],s,(0:Int),(0:Int),b,k,(0:Int),(0:Int),(0:Int),())
theorem Bcl (k s b:List YB) (h1:k.length≤4294967296) (h2:s.length≤4294967296) (h3:b.length≤4294967296):Ap2 (k,()) (s,()) (b,())=some (Aip k s b):=by
 unfold Ap2 Ap1
 simp (disch:=first|omega|(dsimp only;omega)) only[Al,Af,C4,An]
 rfl
theorem Bcm (k s b:List YB) (h1:k.length≤4294967296) (h2:s.length≤4294967296) (h3:b.length≤4294967296):Aps (k,()) (s,()) (b,())=some (Aip k s b):=by
 unfold Aps Apr
 simp only[Aq,Af,List.length_nil,Nat.zero_add,List.nil_append]
 rw[Ap h1,Ap h2,Ap h3]
 rfl
end
end Go.Proofs.YtmhhajdeafijmaaGreat
