/-
  That the program and the reference answer alike, in plain terms, and that the laws answer true.
-/
import Derived.Test.YtmhhajdeafijmaaGreatL36
namespace Go.Proofs.YtmhhajdeafijmaaGreat
open Go.RowKit
set_option linter.unusedVariables false
set_option linter.unusedSimpArgs false
set_option maxRecDepth 100000
set_option maxHeartbeats 4000000
noncomputable section
def Ac8 (c:Aj) (e:YEp):Aj:=(c.1,c.2.1,e.1,e.2.1,e.2.2.1,e.2.2.2.1,e.2.2.2.2.1,c.2.2.1,c.2.2.2.1,c.2.2.2.2.1,c.2.2.2.2.2.1,c.2.2.2.2.2.2.1,true,(-1:Int),c.2.2.2.2.2.2.2.2.2.2.2.2.2.2.1,())
theorem A5o {c:Aj} {e:YEp} (h:Bt c=true) (hr:c.1=1) (he:Dy e=true) (h1:e.1=c.2.2.1+1):Bt (Ac8 c e)=true:=by
 obtain⟨f1,f2,f3,f4,f5⟩:=El h
 have f6:=(Dl f3).1
 have f7:=(Dl he).1
 unfold Bt at h ⊢
 simp only[Bool.not_not,Bool.and_eq_true]at h ⊢
 refine⟨h.1,h.2.1,he,?_,?_⟩
 ·unfold Ib
  have hh:Re (Ac8 c e)=true:=rfl
  rw[hh]
  simp only[Bool.not_true,cond_false,Bool.not_not,Bool.and_eq_true,Bool.or_eq_true,Bool.not_eq_true',bne_eq_false_iff_eq]
  refine⟨f3,?_,.inr ⟨rfl,by show(c.1==(1:Int))=true;rw[hr];rfl⟩⟩
  show c.2.2.1=IntKind.i64.wrap (e.1-1)
  have f6':0≤c.2.2.1∧c.2.2.1≤4294967295:=f6
  rw[w64 zq0];omega
 ·rcases f5 with f5|f5
  ·have:(((I0 (Ac8 c e)).length:Int)==0)=true:=by
    have e1:I0 (Ac8 c e)=c.2.2.2.2.2.2.2.2.2.2.2.2.2.2.1:=rfl
    rw[e1,f5];rfl
   rw[this];rfl
  ·omega
def TuH (c:Aj) (c':Aj) (b:Bool):Prop:=(b=false→c'=c)∧Av c'≤Av c+200∧(b=true→Bt c=true∧c.1=1∧Bt c'=true∧c'.1=c.1∧c'.2.1=c.2.1)
theorem A88 (c:Aj) (h:Av c≤67000000): ∃c' b,Anj c=some (c',(b,()))∧Ano c=some (c',(b,()))∧TuH c c' b:=by
 have nope: ∃c' b,some (c,(false,()))=some (c',(b,()))∧some (c,(false,()))=some (c',(b,()))∧TuH c c' b:=⟨c,false,rfl,rfl,fun _=>rfl,by omega,fun h=>by cases h⟩
 have hc:=h
 simp only[Av]at hc
 unfold Anj Anb Ano Aw1
 simp only[Ae,Ai,Ac]
 rw[Kt c zq0,Ms c zq0,Mp c zq6 zq7,Mq c,A5b,Z1]
 simp only[Ag]
 cases ho:Bt c with
 |false=>exact nope
 |true=>
 simp only[Bool.not_true,An]
 cases hr:(c.1==(1:Int))with
 |false=>rw[show(c.1 != (1:Int))=true by unfold bne;rw[hr];rfl];exact nope
 |true=>
 rw[show(c.1 != (1:Int))=false by unfold bne;rw[hr];rfl,An,An]
 cases hm:(c.2.2.1==(4294967295:Int))with
 |true=>exact nope
 |false=>
 simp only[An]
 obtain⟨f1,f2,f3,f4,f5⟩:=El ho
 have f6:=(Dl f3).1
 have f6:0≤c.2.2.1∧c.2.2.1≤4294967295:=f6
 have f7:c.2.2.2.1.length=32:=(Dl f3).2.1
 have hm':c.2.2.1≠4294967295:=by simpa using hm
 have hk:(E8 c.2.2.2.1 Le).length=32:=Z3 zq4 zq0
 rw[w64 zq0]
 obtain⟨n1,n2⟩:=Aju (c.2.2.1+1) (E8 c.2.2.2.1 Le) zq0 hk
 rw[n1,n2]
 refine⟨Ac8 c (Xt (c.2.2.1+1) (E8 c.2.2.2.1 Le)),true,rfl,rfl,fun h=>(by cases h),?_,fun _=>⟨ho,eq_of_beq hr,A5o ho (eq_of_beq hr) (Ajt zq0 hk) rfl,rfl,rfl⟩⟩
 simp only[Av,Ac8,Xt,List.length_replicate]
 omega
def HrH (c:Aj) (c':Aj) (z:Int):Prop:=(z≠0→c'=c)∧Av c'≤Av c+200∧(z=0→Bt c=true∧c.1=1∧Bt c'=true∧c'.1=c.1∧c'.2.1=c.2.1)
theorem Ajx (c:Aj) (n:YI) (p:YBs) (h:Av c≤67000000): ∃c' z,Lb c n p=some (c',(z,()))∧Ou c n p=some (c',(z,()))∧HrH c c' z:=by
 have nope: ∃c' z,some (c,((6:Int),()))=some (c',(z,()))∧some (c,((6:Int),()))=some (c',(z,()))∧HrH c c' z:=⟨c,6,rfl,rfl,fun _=>rfl,by omega,fun h=>by cases h⟩
 have hc:=h
 simp only[Av]at hc
 obtain⟨t,b,t1,t2,t3,t4,t5⟩:=A88 c h
 unfold Lb Uv Ou Ahk
 simp only[Ae,Ai,Ac]
 rw[Kt c zq0,Ms c zq0,Mp c zq6 zq7,Mq c,Cj,Cz,Amg,Abs,t1,t2]
 simp only[Ag,Oa,Xi]
 cases ho:Bt c with
 |false=>exact nope
 |true=>
 simp only[Bool.not_true,An]
 cases hr:(c.1==(1:Int))with
 |false=>rw[show(c.1 != (1:Int))=true by unfold bne;rw[hr];rfl];exact nope
 |true=>
 rw[show(c.1 != (1:Int))=false by unfold bne;rw[hr];rfl,An,An]
 cases hn:inR n.1 0 4294967294 with
 |false=>exact nope
 |true=>
 simp only[Bool.not_true,An]
 cases hs:Ez p.1 (Ob (IntKind.i64.wrap (n.1+1)))with
 |false=>exact nope
 |true=>
 simp only[Bool.not_true,An]
 obtain⟨f1,f2,f3,f4,f5⟩:=El ho
 have f6:=(Dl f3).1
 have f6:0≤c.2.2.1∧c.2.2.1≤4294967295:=f6
 rw[w64 zq0]
 have same: ∃c' z,some (c,((0:Int),()))=some (c',(z,()))∧some (c,((0:Int),()))=some (c',(z,()))∧HrH c c' z:=⟨c,0,rfl,rfl,fun _=>rfl,by omega,fun _=>⟨ho,eq_of_beq hr,ho,rfl,rfl⟩⟩
 cases hA:(n.1==c.2.2.1-1)with
 |true=>
  have e1:=eq_of_beq hA
  rw[show(n.1==c.2.2.1)=false by simp;omega,A0,An,A0]
  exact same
 |false=>
  rw[An]
  cases hB:(n.1==c.2.2.1)with
  |false=>rw[show(n.1 != c.2.2.1)=true by unfold bne;rw[hB];rfl];exact nope
  |true=>
   rw[show(n.1 != c.2.2.1)=false by unfold bne;rw[hB];rfl,An,A0]
   cases b with
   |false=>exact nope
   |true=>exact⟨t,0,rfl,rfl,fun h=>(h rfl).elim,t4,fun _=>t5 rfl⟩
end
end Go.Proofs.YtmhhajdeafijmaaGreat
