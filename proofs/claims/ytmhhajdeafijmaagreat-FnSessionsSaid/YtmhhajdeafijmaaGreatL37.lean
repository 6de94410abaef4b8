/-
  That the program and the reference answer alike, in plain terms, and that the laws answer true.
-/
import Derived.Test.YtmhhajdeafijmaaGreatL36
namespace Go.Proofs.YtmhhajdeafijmaaGreat
open Go.RowKit
set_option linter.unusedVariables false
set_option linter.unusedSimpArgs false
set_option maxRecDepth 100000
set_option maxHeartbeats 4000000
noncomputable section
def Aca (c:Al) (e:YEp):Al:=(c.1,c.2.1,e.1,e.2.1,e.2.2.1,e.2.2.2.1,e.2.2.2.2.1,c.2.2.1,c.2.2.2.1,c.2.2.2.2.1,c.2.2.2.2.2.1,c.2.2.2.2.2.2.1,true,(-1:Int),c.2.2.2.2.2.2.2.2.2.2.2.2.2.2.1,())
theorem A3i {c:Al} {e:YEp} (h:Bo c=true) (hr:c.1=1) (he:Dt e=true) (h1:e.1=c.2.2.1+1):Bo (Aca c e)=true:=by
 obtain⟨f1,f2,f3,f4,f5⟩:=Eh h
 have f6:=(Dh f3).1
 have f7:=(Dh he).1
 unfold Bo at h ⊢
 simp only[Bool.not_not,Bool.and_eq_true]at h ⊢
 refine⟨h.1,h.2.1,he,?_,?_⟩
 ·unfold H4
  have hh:Qt (Aca c e)=true:=rfl
  rw[hh]
  simp only[Bool.not_true,cond_false,Bool.not_not,Bool.and_eq_true,Bool.or_eq_true,Bool.not_eq_true',bne_eq_false_iff_eq]
  refine⟨f3,?_,.inr ⟨rfl,by show(c.1==(1:Int))=true;rw[hr];rfl⟩⟩
  show c.2.2.1=IntKind.i64.wrap (e.1-1)
  have f6':0≤c.2.2.1∧c.2.2.1≤4294967295:=f6
  rw[w64 zq0];omega
 ·rcases f5 with f5|f5
  ·have:(((Ir (Aca c e)).length:Int)==0)=true:=by
    have e1:Ir (Aca c e)=c.2.2.2.2.2.2.2.2.2.2.2.2.2.2.1:=rfl
    rw[e1,f5];rfl
   rw[this];rfl
  ·omega
def TuH (c:Al) (c':Al) (b:Bool):Prop:=(b=false→c'=c)∧Av c'≤Av c+200∧(b=true→Bo c=true∧c.1=1∧Bo c'=true∧c'.1=c.1∧c'.2.1=c.2.1)
theorem A62 (c:Al) (h:Av c≤67000000): ∃c' b,Alp c=some (c',(b,()))∧V_s_Turn c=some (c',(b,()))∧TuH c c' b:=by
 have nope: ∃c' b,some (c,(false,()))=some (c',(b,()))∧some (c,(false,()))=some (c',(b,()))∧TuH c c' b:=⟨c,false,rfl,rfl,fun _=>rfl,by omega,fun h=>by cases h⟩
 have hc:=h
 simp only[Av]at hc
 unfold Alp Alo V_s_Turn T_s_Turn
 simp only[Ae,Ai,Ac]
 rw[Ki c zq0,Md c zq0,Ma c zq6 zq7,Mb c,A25,Zd]
 simp only[Ag]
 cases ho:Bo c with
 |false=>exact nope
 |true=>
 simp only[Bool.not_true,Am]
 cases hr:(c.1==(1:Int))with
 |false=>rw[show(c.1 != (1:Int))=true by unfold bne;rw[hr];rfl];exact nope
 |true=>
 rw[show(c.1 != (1:Int))=false by unfold bne;rw[hr];rfl,Am,Am]
 cases hm:(c.2.2.1==(4294967295:Int))with
 |true=>exact nope
 |false=>
 simp only[Am]
 obtain⟨f1,f2,f3,f4,f5⟩:=Eh ho
 have f6:=(Dh f3).1
 have f6:0≤c.2.2.1∧c.2.2.1≤4294967295:=f6
 have f7:c.2.2.2.1.length=32:=(Dh f3).2.1
 have hm':c.2.2.1≠4294967295:=by simpa using hm
 have hk:(E6 c.2.2.2.1 K0).length=32:=Zf zq4 zq0
 rw[w64 zq0]
 obtain⟨n1,n2⟩:=Aij (c.2.2.1+1) (E6 c.2.2.2.1 K0) zq0 hk
 rw[n1,n2]
 refine⟨Aca c (W6 (c.2.2.1+1) (E6 c.2.2.2.1 K0)),true,rfl,rfl,fun h=>(by cases h),?_,fun _=>⟨ho,eq_of_beq hr,A3i ho (eq_of_beq hr) (Aii zq0 hk) rfl,rfl,rfl⟩⟩
 simp only[Av,Aca,W6,List.length_replicate]
 omega
def HrH (c:Al) (c':Al) (z:Int):Prop:=(z≠0→c'=c)∧Av c'≤Av c+200∧(z=0→Bo c=true∧c.1=1∧Bo c'=true∧c'.1=c.1∧c'.2.1=c.2.1)
theorem Aim (c:Al) (n:YI) (p:YBs) (h:Av c≤67000000): ∃c' z,Ku c n p=some (c',(z,()))∧V_s_HearRekey c n p=some (c',(z,()))∧HrH c c' z:=by
 have nope: ∃c' z,some (c,((6:Int),()))=some (c',(z,()))∧some (c,((6:Int),()))=some (c',(z,()))∧HrH c c' z:=⟨c,6,rfl,rfl,fun _=>rfl,by omega,fun h=>by cases h⟩
 have hc:=h
 simp only[Av]at hc
 obtain⟨t,b,t1,t2,t3,t4,t5⟩:=A62 c h
 unfold Ku Ub V_s_HearRekey T_s_HearRekey
 simp only[Ae,Ai,Ac]
 rw[Ki c zq0,Md c zq0,Ma c zq6 zq7,Mb c,Ch,Cw,Akw,Aa2,t1,t2]
 simp only[Ag,Ns,Wv]
 cases ho:Bo c with
 |false=>exact nope
 |true=>
 simp only[Bool.not_true,Am]
 cases hr:(c.1==(1:Int))with
 |false=>rw[show(c.1 != (1:Int))=true by unfold bne;rw[hr];rfl];exact nope
 |true=>
 rw[show(c.1 != (1:Int))=false by unfold bne;rw[hr];rfl,Am,Am]
 cases hn:inR n.1 0 4294967294 with
 |false=>exact nope
 |true=>
 simp only[Bool.not_true,Am]
 cases hs:Ew p.1 (Nt (IntKind.i64.wrap (n.1+1)))with
 |false=>exact nope
 |true=>
 simp only[Bool.not_true,Am]
 obtain⟨f1,f2,f3,f4,f5⟩:=Eh ho
 have f6:=(Dh f3).1
 have f6:0≤c.2.2.1∧c.2.2.1≤4294967295:=f6
 rw[w64 zq0]
 have same: ∃c' z,some (c,((0:Int),()))=some (c',(z,()))∧some (c,((0:Int),()))=some (c',(z,()))∧HrH c c' z:=⟨c,0,rfl,rfl,fun _=>rfl,by omega,fun _=>⟨ho,eq_of_beq hr,ho,rfl,rfl⟩⟩
 cases hA:(n.1==c.2.2.1-1)with
 |true=>
  have e1:=eq_of_beq hA
  rw[show(n.1==c.2.2.1)=false by simp;omega,A0,Am,A0]
  exact same
 |false=>
  rw[Am]
  cases hB:(n.1==c.2.2.1)with
  |false=>rw[show(n.1 != c.2.2.1)=true by unfold bne;rw[hB];rfl];exact nope
  |true=>
   rw[show(n.1 != c.2.2.1)=false by unfold bne;rw[hB];rfl,Am,A0]
   cases b with
   |false=>exact nope
   |true=>exact⟨t,0,rfl,rfl,fun h=>(h rfl).elim,t4,fun _=>t5 rfl⟩
end
end Go.Proofs.YtmhhajdeafijmaaGreat
