/-
  That the program and the reference answer alike, in plain terms, and that the laws answer true.
-/
import Derived.Test.YtjlblagmjlmglaaGreatL32
namespace Go.Proofs.YtjlblagmjlmglaaGreat
open Go.RowKit
set_option linter.unusedVariables false
set_option linter.unusedSimpArgs false
set_option maxRecDepth 100000
set_option maxHeartbeats 8000000
noncomputable section
def Hp (c:Ab) (st:Int) (fi:Aa) (ch:Af) (t r:Bg) (la:Int):Ab:=(c.1,c.2.1,c.2.2.1,c.2.2.2.1,st,c.2.2.2.2.2.1,fi.1,fi.2.1,fi.2.2.1,fi.2.2.2.1,fi.2.2.2.2.1,fi.2.2.2.2.2.1,fi.2.2.2.2.2.2.1,fi.2.2.2.2.2.2.2.1,fi.2.2.2.2.2.2.2.2.1,fi.2.2.2.2.2.2.2.2.2.1,fi.2.2.2.2.2.2.2.2.2.2.1,ch.1,ch.2.1,ch.2.2.1,ch.2.2.2.1,ch.2.2.2.2.1,ch.2.2.2.2.2.1,ch.2.2.2.2.2.2.1,ch.2.2.2.2.2.2.2.1,ch.2.2.2.2.2.2.2.2.1,ch.2.2.2.2.2.2.2.2.2.1,ch.2.2.2.2.2.2.2.2.2.2.1,ch.2.2.2.2.2.2.2.2.2.2.2.1,ch.2.2.2.2.2.2.2.2.2.2.2.2.1,ch.2.2.2.2.2.2.2.2.2.2.2.2.2.1,ch.2.2.2.2.2.2.2.2.2.2.2.2.2.2.1,t.1,t.2.1,t.2.2.1,t.2.2.2.1,r.1,r.2.1,r.2.2.1,r.2.2.2.1,la,())
theorem W6 {c:Ab} (h:Bk c=true):(1≤c.1∧c.1≤9)∧F9 (c.2.1,())=true∧Fz (c.2.2.1,c.2.2.2.1,())=true:=by
 unfold Bk at h
 simp only[Bool.and_eq_true,Bf]at h
 exact⟨h.1,h.2.1,h.2.2.1⟩
theorem A70 {c:Ab} (h:Bk c=true) (hs:c.2.2.2.2.1=1):c.2.2.2.2.2.1.length=12∧F2 (clR c)=true∧Alx c=0:=by
 unfold Bk at h
 rw[hs]at h
 simp only[show((1:Int)==0)=false by decide,show((1:Int)==1)=true by decide,cond_false,cond_true,Bool.and_eq_true,beq_iff_eq]at h
 exact⟨by omega,h.2.2.2.2.2.2.2.2.1,h.2.2.2.2.2.2.2.2.2⟩
theorem A71 {c:Ab} (h:Bk c=true) (hs:c.2.2.2.2.1=2):c.2.2.2.2.2.1.length=12∧Bw (Cw c)=true∧(Cw c).1=0∧(Cy (Cw c)).length=0∧F2 (clR c)=true:=by
 unfold Bk at h
 rw[hs]at h
 simp only[show((2:Int)==0)=false by decide,show((2:Int)==1)=false by decide,show((2:Int)==2)=true by decide,cond_false,cond_true,Bool.and_eq_true,beq_iff_eq]at h
 obtain⟨_,_,_,⟨a1,_,_,_,_,a6,a7,_,_,_,a11⟩,_,_,b3,_⟩:=h
 exact⟨by omega,a6,a7,by have:((Cy (Cw c)).length:Int)=0:=a11;omega,b3⟩
theorem A72 {c:Ab} (h:Bk c=true) (hs:c.2.2.2.2.1=3):c.2.2.2.2.2.1.length=12∧frZ (Ez c)=true∧Bw (Cw c)=true∧(Cw c).1=0∧F2 (clT c)=true∧Cu (clR c)=true∧(clR c).1=decide (((Cy (Cw c)).length:Int)>0):=by
 unfold Bk at h
 rw[hs]at h
 simp only[show((3:Int)==0)=false by decide,show((3:Int)==1)=false by decide,show((3:Int)==2)=false by decide,show((3:Int)==3)=true by decide,cond_false,cond_true,Bool.and_eq_true,beq_iff_eq]at h
 obtain⟨_,_,_,a1,a2,a3,a4,a5,a6,a7,_⟩:=h
 exact⟨by omega,a2,a3,a4,a5,a6,a7⟩
theorem A5f {c:Ab} {fi:Aa} {ch:Af} {t r:Bg} {la:Int} (h:Bk c=true) (h1:c.2.2.2.2.2.1.length=12) (h2:frZ fi=true) (h3:Bw ch=true) (h4:ch.1=0) (h5:F2 t=true) (h6:Cu r=true) (h7:r.1=decide (((Cy ch).length:Int)>0)) (h8:0≤la∧la≤1000000):
  Bk (Hp c 3 fi ch t r la)=true:=by
 obtain⟨k1,k2,k3⟩:=W6 h
 have e1:Ez (Hp c 3 fi ch t r la)=fi:=rfl
 have e2:Cw (Hp c 3 fi ch t r la)=ch:=rfl
 have e3:clT (Hp c 3 fi ch t r la)=t:=rfl
 have e4:clR (Hp c 3 fi ch t r la)=r:=rfl
 unfold Bk
 rw[e1,e2,e3,e4,h2,h3,h5,h6]
 simp only[Hp,h4,h7,k2,k3,Cy,show((3:Int)==0)=false by decide,show((3:Int)==1)=false by decide,show((3:Int)==2)=false by decide,show((3:Int)==3)=true by decide,cond_false,cond_true,Bool.true_and,beq_self_eq_true,Bool.and_eq_true,beq_iff_eq,Bf]
 omega
theorem Bcm {c:Ab} {fi:Aa} {ch:Af} {t r:Bg} (h:Bk c=true) (h1:c.2.2.2.2.2.1.length=12) (h2:fi.1=3∧B9 fi=true∧fi.2.1=c.1∧Dv fi.2.2.1 c.2.2.2.2.2.1=true) (h3:Bw ch=true) (h4:ch.1=0) (h4b:Dv ch.2.1 fi.2.2.2.1=true) (h5:ch.2.2.1=0∧Pa ch=false∧(Cy ch).length=0) (h6:t.1=true∧Cu t=true) (h7:F2 r=true):
  Bk (Hp c 2 fi ch t r 0)=true:=by
 obtain⟨k1,k2,k3⟩:=W6 h
 have e1:Ez (Hp c 2 fi ch t r 0)=fi:=rfl
 have e2:Cw (Hp c 2 fi ch t r 0)=ch:=rfl
 have e3:clT (Hp c 2 fi ch t r 0)=t:=rfl
 have e4:clR (Hp c 2 fi ch t r 0)=r:=rfl
 have h5b:ch.2.2.2.2.2.2.2.2.2.2.2.2.1=false:=h5.2.1
 have h5c:ch.2.2.2.2.2.2.2.2.2.2.2.2.2.2.1.length=0:=h5.2.2
 unfold Bk
 rw[e1,e2,e3,e4,h2.2.1,h3,h6.2,h7]
 simp only[Hp,h4,h4b,h2.1,h2.2.2.1,h2.2.2.2,h5.1,h5b,h5c,h6.1,k2,k3,show((2:Int)==0)=false by decide,show((2:Int)==1)=false by decide,show((2:Int)==2)=true by decide,cond_false,cond_true,Bool.true_and,Bool.not_false,beq_self_eq_true,Bool.and_eq_true,beq_iff_eq,Bf,and_true]
 omega
def ClH (c:Ab) (f:Aa) (r:Ab) (fs:List Aa) (ns:List Ae):Prop:=
 An r≤An c+Ar f+400∧fs.length+Dg Ar fs≤2*(An c+Ar f+400)∧ns.length+Dg De ns≤20*(An c+Ar f+400)∧
 (ns=[]→r=c∧fs=[])∧fs.length≤1∧r.1=c.1∧r.2.2.1=c.2.2.1∧r.2.2.2.1=c.2.2.2.1∧(Bk c=true→Bk r=true)∧Aqa fs∧Fs ns∧(wfB f.2.2.2.1→wfB (Cw c).2.1→wfB (Cw r).2.1)
theorem ClH.none {c:Ab} {f:Aa}:ClH c f c [] []:=⟨by omega,by simp[Dg],by simp[Dg],fun _=>⟨rfl,rfl⟩,by simp,rfl,rfl,rfl,fun h=>h,fun f h=>(by cases h),fun n h=>(by cases h),fun _ h=>h⟩
theorem Axp (c:Ab) (n:YI) (f:Aa) (h:An c≤8388608) (h2:Ar f≤8388608) (ho:Bk c=true) (hn:0≤n.1∧n.1≤1000000) (hf:B9 f=true) (hk:f.1=2) (hst:c.2.2.2.2.1=1) (hcn:Dv f.2.2.1 c.2.2.2.2.2.1=true):
  ∃r fs ns t,Cj n=some t∧Qk c n f=some (r,(fs,()),(ns,()))∧ClH c f r fs ns∧
  r=Hp c 2 (C9 c.2.1 c.1 f) (Aab 0 f.2.2.2.1 (Hg c.2.1 c.2.2.2.2.2.1 f.2.2.2.1 0)) t (clR c) (Alx c)∧fs=[C9 c.2.1 c.1 f]∧
  ns=[((2:Int),c.1,(0:Int),c.2.2.2.2.2.1,f.2.2.2.1,(0:Int),(0:Int),([]:List YB),([]:List YB),(0:Int),(0:Int),n.1,()),Rw (Ed c.2.1) (Dp c.1 f.2.2.1 f.2.2.2.1 f.2.2.2.2.1 f.2.2.2.2.2.1)]:=by
 obtain⟨k1,k2,k3⟩:=W6 ho
 obtain⟨s1,s2,s3⟩:=A70 ho hst
 obtain⟨a1,a2,a3,a4,a5,a6,a7,a8,a9,a10⟩:=Aac hf hk
 obtain⟨g1,g2,g3⟩:=Ajf c.2.1 c.1 f k2 k1 hf hk
 have hek:(Hg c.2.1 c.2.2.2.2.2.1 f.2.2.2.1 0).length=32:=by
  have hroot:(Fc c.2.1 c.2.2.2.2.2.1 f.2.2.2.1).length=32:=by
   unfold Fc
   have hp:inR (c.2.1.length:Int) 1 32=true:=k2
   rw[if_pos ⟨hp,s1,a2⟩]
   have:=Bf.1 hp
   exact Qt _ _ zq1 zq0
  have hfirst:(Ep (Fc c.2.1 c.2.2.2.2.2.1 f.2.2.2.1)).length=32:=by
   unfold Ep
   rw[if_pos hroot]
   exact Al2 zq4 zq0
  unfold Hg
  rw[if_neg zq0]
  unfold Z7
  rw[if_pos zq0]
  exact hfirst
 obtain⟨n1,_⟩:=Aoj 0 f.2.2.2.1 (Hg c.2.1 c.2.2.2.2.2.1 f.2.2.2.1 0) (.inl rfl) a2 hek
 have hts:Cj n=some (true,n.1+1,(1:Int),(1:Int),()):=by
  unfold Cj G8
  simp only[Ai,Aj,Ad,Bv,Al,Bf.2 hn,Bool.not_true,Aq]
  rw[w64 zq0]
 have hpl:=Tn (id:=c.1) (cn:=f.2.2.1) (sn:=f.2.2.2.1) (tick:=f.2.2.2.2.1) (ck:=f.2.2.2.2.2.1)
 have hpb:(Dp c.1 f.2.2.1 f.2.2.2.1 f.2.2.2.2.1 f.2.2.2.2.2.1).length≤46:=by rw[hpl];cases Hk c.1 f.2.2.1 f.2.2.2.1 f.2.2.2.2.1 f.2.2.2.2.2.1<;>simp
 have hfk:=Al3 c.2.1
 have hpf:=Awa c.2.1 c.1 f.2.2.1 f.2.2.2.1 f.2.2.2.2.1 f.2.2.2.2.2.1
 refine⟨_,_,_,_,hts,?_,?_,rfl,rfl,rfl⟩
 ·unfold Qk Aen
  simp only[Ai,Aj,Ad]
  rw[Hh c zq0,g1,Aoh,hts,A46]
  simp only[Al,Bool.not_true,Aq]
  rw[n1,Aok]
  simp only[Al]
  rw[Cg _ zq2,Cg _ zq2,show J3 ((C9 c.2.1 c.1 f).2.1,()) ((C9 c.2.1 c.1 f).2.2.1,()) ((C9 c.2.1 c.1 f).2.2.2.1,()) ((C9 c.2.1 c.1 f).2.2.2.2.1,()) ((C9 c.2.1 c.1 f).2.2.2.2.2.1,())=some (Dp c.1 f.2.2.1 f.2.2.2.1 f.2.2.2.2.1 f.2.2.2.2.2.1,())from Aom _ _ _ _ _]
  simp only[Al]
  rw[A7m _ _ zq0 zq0,Aog _ (by simp only[Ar,C9,List.length_nil];omega)]
  simp only[Al]
  rfl
 ·refine⟨?_,?_,?_,fun h=>(by cases h),by simp,rfl,rfl,rfl,fun _=>?_,?_,?_,fun h _=>h⟩
  ·simp only[An,Hp,C9,Aab,List.length_nil,List.length_replicate];omega
  ·simp only[Dg,Ar,C9,List.length_cons,List.length_nil];omega
  ·simp only[Dg,De,Rw,List.length_cons,List.length_nil];omega
  ·have hla:Alx c=0:=s3
   rw[hla]
   refine Bcm ho s1 ⟨rfl,g3,rfl,hcn⟩ (A2c (.inl rfl) a2 hek) rfl (Ahq _) ⟨rfl,rfl,rfl⟩ ⟨rfl,?_⟩ s2
   unfold Cu
   simp only[Bool.not_true,cond_false,Bool.and_eq_true,Bf]
   exact⟨by omega,by omega,by decide⟩
  ·intro x hx
   simp only[List.mem_singleton]at hx
   rw[hx];exact g3
  ·intro x hx
   simp only[List.mem_cons,List.not_mem_nil,or_false]at hx
   rcases hx with rfl|rfl
   ·rw[Jq]
    simp only[List.length_nil]
    exact⟨by omega,by omega,by omega,by omega,by omega,by omega,.inr s1,.inr a2,by omega,.inl trivial,Ah6⟩
   ·exact Azx zq0 zq0
end
end Go.Proofs.YtjlblagmjlmglaaGreat
