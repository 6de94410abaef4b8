/-
  That the program and the reference answer alike, in plain terms, and that the laws answer true.
-/
import Derived.Test.YtmhhajdeafijmaaGreatL36
namespace Go.Proofs.YtmhhajdeafijmaaGreat
open Go.RowKit
set_option linter.unusedVariables false
set_option linter.unusedSimpArgs false
set_option maxRecDepth 100000
set_option maxHeartbeats 4000000
noncomputable section
def Ack (c:Aj) (e:YEp):Aj:=(c.1,c.2.1,e.1,e.2.1,e.2.2.1,e.2.2.2.1,e.2.2.2.2.1,c.2.2.1,c.2.2.2.1,c.2.2.2.2.1,c.2.2.2.2.2.1,c.2.2.2.2.2.2.1,true,(-1:Int),c.2.2.2.2.2.2.2.2.2.2.2.2.2.2.1,())
theorem A5r {c:Aj} {e:YEp} (h:Ci c=true) (hr:c.1=1) (he:Es e=true) (h1:e.1=c.2.2.1+1):Ci (Ack c e)=true:=by
 obtain⟨f1,f2,f3,f4,f5⟩:=Hs h
 have f6:=(D4 f3).1
 have f7:=(D4 he).1
 unfold Ci at h ⊢
 simp only[Bool.not_not,Bool.and_eq_true]at h ⊢
 refine⟨h.1,h.2.1,he,?_,?_⟩
 ·unfold K5
  have hh:Qm (Ack c e)=true:=rfl
  rw[hh]
  simp only[Bool.not_true,cond_false,Bool.not_not,Bool.and_eq_true,Bool.or_eq_true,Bool.not_eq_true',bne_eq_false_iff_eq]
  refine⟨f3,?_,.inr ⟨rfl,by show(c.1==(1:Int))=true;rw[hr];rfl⟩⟩
  show c.2.2.1=IntKind.i64.wrap (e.1-1)
  have f6':0≤c.2.2.1∧c.2.2.1≤4294967295:=f6
  rw[w64 zq0];omega
 ·rcases f5 with f5|f5
  ·have:(((Ki (Ack c e)).length:Int)==0)=true:=by
    have e1:Ki (Ack c e)=c.2.2.2.2.2.2.2.2.2.2.2.2.2.2.1:=rfl
    rw[e1,f5];rfl
   rw[this];rfl
  ·omega
def TuH (c:Aj) (c':Aj) (b:Bool):Prop:=(b=false→c'=c)∧Ax c'≤Ax c+200∧(b=true→Ci c=true∧c.1=1∧Ci c'=true∧c'.1=c.1∧c'.2.1=c.2.1)
theorem A87 (c:Aj) (h:Ax c≤67000000): ∃c' b,Anc c=some (c',(b,()))∧Anm c=some (c',(b,()))∧TuH c c' b:=by
 have nope: ∃c' b,some (c,(false,()))=some (c',(b,()))∧some (c,(false,()))=some (c',(b,()))∧TuH c c' b:=⟨c,false,rfl,rfl,fun _=>rfl,by omega,fun h=>by cases h⟩
 have hc:=h
 simp only[Ax]at hc
 unfold Anc Anb Anm Anl
 simp only[Af,Ah,Ac]
 rw[Mu c zq0,Lz c zq0,Lr c zq5 zq6,Ls c,A49,Ajy]
 simp only[Ai]
 cases ho:Ci c with
 |false=>exact nope
 |true=>
 simp only[Bool.not_true,Ap]
 cases hr:(c.1==(1:Int))with
 |false=>rw[show(c.1 != (1:Int))=true by unfold bne;rw[hr];rfl];exact nope
 |true=>
 rw[show(c.1 != (1:Int))=false by unfold bne;rw[hr];rfl,Ap,Ap]
 cases hm:(c.2.2.1==(4294967295:Int))with
 |true=>exact nope
 |false=>
 simp only[Ap]
 obtain⟨f1,f2,f3,f4,f5⟩:=Hs ho
 have f6:=(D4 f3).1
 have f6:0≤c.2.2.1∧c.2.2.1≤4294967295:=f6
 have f7:c.2.2.2.1.length=32:=(D4 f3).2.1
 have hm':c.2.2.1≠4294967295:=by simpa using hm
 have hk:(F9 c.2.2.2.1 Td).length=32:=A5n zq3 zq0
 rw[w64 zq0]
 obtain⟨n1,n2⟩:=A5m (c.2.2.1+1) (F9 c.2.2.2.1 Td) zq0 hk
 rw[n1,n2]
 refine⟨Ack c (Aj2 (c.2.2.1+1) (F9 c.2.2.2.1 Td)),true,rfl,rfl,fun h=>(by cases h),?_,fun _=>⟨ho,eq_of_beq hr,A5r ho (eq_of_beq hr) (A5l zq0 hk) rfl,rfl,rfl⟩⟩
 simp only[Ax,Ack,Aj2,List.length_replicate]
 omega
def HrH (c:Aj) (c':Aj) (z:Int):Prop:=(z≠0→c'=c)∧Ax c'≤Ax c+200∧(z=0→Ci c=true∧c.1=1∧Ci c'=true∧c'.1=c.1∧c'.2.1=c.2.1)
theorem Axz (c:Aj) (n:YI) (p:YBs) (h:Ax c≤67000000): ∃c' z,Nv c n p=some (c',(z,()))∧Nw c n p=some (c',(z,()))∧HrH c c' z:=by
 have nope: ∃c' z,some (c,((6:Int),()))=some (c',(z,()))∧some (c,((6:Int),()))=some (c',(z,()))∧HrH c c' z:=⟨c,6,rfl,rfl,fun _=>rfl,by omega,fun h=>by cases h⟩
 have hc:=h
 simp only[Ax]at hc
 obtain⟨t,b,t1,t2,t3,t4,t5⟩:=A87 c h
 unfold Nv T4 Nw T6
 simp only[Af,Ah,Ac]
 rw[Mu c zq0,Lz c zq0,Lr c zq5 zq6,Ls c,C9,C4,Amj,Aa8,t1,t2]
 simp only[Ai,Kr,Wz]
 cases ho:Ci c with
 |false=>exact nope
 |true=>
 simp only[Bool.not_true,Ap]
 cases hr:(c.1==(1:Int))with
 |false=>rw[show(c.1 != (1:Int))=true by unfold bne;rw[hr];rfl];exact nope
 |true=>
 rw[show(c.1 != (1:Int))=false by unfold bne;rw[hr];rfl,Ap,Ap]
 cases hn:inR n.1 0 4294967294 with
 |false=>exact nope
 |true=>
 simp only[Bool.not_true,Ap]
 cases hs:E4 p.1 (Nn (IntKind.i64.wrap (n.1+1)))with
 |false=>exact nope
 |true=>
 simp only[Bool.not_true,Ap]
 obtain⟨f1,f2,f3,f4,f5⟩:=Hs ho
 have f6:=(D4 f3).1
 have f6:0≤c.2.2.1∧c.2.2.1≤4294967295:=f6
 rw[w64 zq0]
 have same: ∃c' z,some (c,((0:Int),()))=some (c',(z,()))∧some (c,((0:Int),()))=some (c',(z,()))∧HrH c c' z:=⟨c,0,rfl,rfl,fun _=>rfl,by omega,fun _=>⟨ho,eq_of_beq hr,ho,rfl,rfl⟩⟩
 cases hA:(n.1==c.2.2.1-1)with
 |true=>
  have e1:=eq_of_beq hA
  rw[show(n.1==c.2.2.1)=false by simp;omega,Az,Ap,Az]
  exact same
 |false=>
  rw[Ap]
  cases hB:(n.1==c.2.2.1)with
  |false=>rw[show(n.1 != c.2.2.1)=true by unfold bne;rw[hB];rfl];exact nope
  |true=>
   rw[show(n.1 != c.2.2.1)=false by unfold bne;rw[hB];rfl,Ap,Az]
   cases b with
   |false=>exact nope
   |true=>exact⟨t,0,rfl,rfl,fun h=>(h rfl).elim,t4,fun _=>t5 rfl⟩
end
end Go.Proofs.YtmhhajdeafijmaaGreat
