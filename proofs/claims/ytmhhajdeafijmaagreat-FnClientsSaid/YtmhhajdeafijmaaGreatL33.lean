/-
  That the program and the reference answer alike, in plain terms, and that the laws answer true.
-/
import Derived.Test.YtmhhajdeafijmaaGreatL32
namespace Go.Proofs.YtmhhajdeafijmaaGreat
open Go.RowKit
set_option linter.unusedVariables false
set_option linter.unusedSimpArgs false
set_option maxRecDepth 100000
set_option maxHeartbeats 8000000
noncomputable section
def Ia (c:Ac) (st:Int) (fi:Ab) (ch:Ai) (t r:B0) (la:Int):Ac:=(c.1,c.2.1,c.2.2.1,c.2.2.2.1,st,c.2.2.2.2.2.1,fi.1,fi.2.1,fi.2.2.1,fi.2.2.2.1,fi.2.2.2.2.1,fi.2.2.2.2.2.1,fi.2.2.2.2.2.2.1,fi.2.2.2.2.2.2.2.1,fi.2.2.2.2.2.2.2.2.1,fi.2.2.2.2.2.2.2.2.2.1,fi.2.2.2.2.2.2.2.2.2.2.1,ch.1,ch.2.1,ch.2.2.1,ch.2.2.2.1,ch.2.2.2.2.1,ch.2.2.2.2.2.1,ch.2.2.2.2.2.2.1,ch.2.2.2.2.2.2.2.1,ch.2.2.2.2.2.2.2.2.1,ch.2.2.2.2.2.2.2.2.2.1,ch.2.2.2.2.2.2.2.2.2.2.1,ch.2.2.2.2.2.2.2.2.2.2.2.1,ch.2.2.2.2.2.2.2.2.2.2.2.2.1,ch.2.2.2.2.2.2.2.2.2.2.2.2.2.1,ch.2.2.2.2.2.2.2.2.2.2.2.2.2.2.1,t.1,t.2.1,t.2.2.1,t.2.2.2.1,r.1,r.2.1,r.2.2.1,r.2.2.2.1,la,())
theorem Ae3 {c:Ac} (h:Bw c=true):(1≤c.1∧c.1≤9)∧Km (c.2.1,())=true∧Pc (c.2.2.1,c.2.2.2.1,())=true:=by
 unfold Bw at h
 simp only[Bool.and_eq_true,Bt]at h
 exact⟨h.1,h.2.1,h.2.2.1⟩
theorem A77 {c:Ac} (h:Bw c=true) (hs:c.2.2.2.2.1=1):c.2.2.2.2.2.1.length=12∧Hc (clR c)=true∧Azp c=0:=by
 unfold Bw at h
 rw[hs]at h
 simp only[show((1:Int)==0)=false by decide,show((1:Int)==1)=true by decide,cond_false,cond_true,Bool.and_eq_true,beq_iff_eq]at h
 exact⟨by omega,h.2.2.2.2.2.2.2.2.1,h.2.2.2.2.2.2.2.2.2⟩
theorem A78 {c:Ac} (h:Bw c=true) (hs:c.2.2.2.2.1=2):c.2.2.2.2.2.1.length=12∧B4 (C0 c)=true∧(C0 c).1=0∧(C6 (C0 c)).length=0∧Hc (clR c)=true:=by
 unfold Bw at h
 rw[hs]at h
 simp only[show((2:Int)==0)=false by decide,show((2:Int)==1)=false by decide,show((2:Int)==2)=true by decide,cond_false,cond_true,Bool.and_eq_true,beq_iff_eq]at h
 obtain⟨_,_,_,⟨a1,_,_,_,_,a6,a7,_,_,_,a11⟩,_,_,b3,_⟩:=h
 exact⟨by omega,a6,a7,by have:((C6 (C0 c)).length:Int)=0:=a11;omega,b3⟩
theorem A79 {c:Ac} (h:Bw c=true) (hs:c.2.2.2.2.1=3):c.2.2.2.2.2.1.length=12∧frZ (Fw c)=true∧B4 (C0 c)=true∧(C0 c).1=0∧Hc (clT c)=true∧Fk (clR c)=true∧(clR c).1=decide (((C6 (C0 c)).length:Int)>0):=by
 unfold Bw at h
 rw[hs]at h
 simp only[show((3:Int)==0)=false by decide,show((3:Int)==1)=false by decide,show((3:Int)==2)=false by decide,show((3:Int)==3)=true by decide,cond_false,cond_true,Bool.and_eq_true,beq_iff_eq]at h
 obtain⟨_,_,_,a1,a2,a3,a4,a5,a6,a7,_⟩:=h
 exact⟨by omega,a2,a3,a4,a5,a6,a7⟩
theorem A5n {c:Ac} {fi:Ab} {ch:Ai} {t r:B0} {la:Int} (h:Bw c=true) (h1:c.2.2.2.2.2.1.length=12) (h2:frZ fi=true) (h3:B4 ch=true) (h4:ch.1=0) (h5:Hc t=true) (h6:Fk r=true) (h7:r.1=decide (((C6 ch).length:Int)>0)) (h8:0≤la∧la≤1000000):
  Bw (Ia c 3 fi ch t r la)=true:=by
 obtain⟨k1,k2,k3⟩:=Ae3 h
 have e1:Fw (Ia c 3 fi ch t r la)=fi:=rfl
 have e2:C0 (Ia c 3 fi ch t r la)=ch:=rfl
 have e3:clT (Ia c 3 fi ch t r la)=t:=rfl
 have e4:clR (Ia c 3 fi ch t r la)=r:=rfl
 unfold Bw
 rw[e1,e2,e3,e4,h2,h3,h5,h6]
 simp only[Ia,h4,h7,k2,k3,C6,show((3:Int)==0)=false by decide,show((3:Int)==1)=false by decide,show((3:Int)==2)=false by decide,show((3:Int)==3)=true by decide,cond_false,cond_true,Bool.true_and,beq_self_eq_true,Bool.and_eq_true,beq_iff_eq,Bt]
 omega
theorem Bcn {c:Ac} {fi:Ab} {ch:Ai} {t r:B0} (h:Bw c=true) (h1:c.2.2.2.2.2.1.length=12) (h2:fi.1=3∧Cc fi=true∧fi.2.1=c.1∧Dq fi.2.2.1 c.2.2.2.2.2.1=true) (h3:B4 ch=true) (h4:ch.1=0) (h4b:Dq ch.2.1 fi.2.2.2.1=true) (h5:ch.2.2.1=0∧Pd ch=false∧(C6 ch).length=0) (h6:t.1=true∧Fk t=true) (h7:Hc r=true):
  Bw (Ia c 2 fi ch t r 0)=true:=by
 obtain⟨k1,k2,k3⟩:=Ae3 h
 have e1:Fw (Ia c 2 fi ch t r 0)=fi:=rfl
 have e2:C0 (Ia c 2 fi ch t r 0)=ch:=rfl
 have e3:clT (Ia c 2 fi ch t r 0)=t:=rfl
 have e4:clR (Ia c 2 fi ch t r 0)=r:=rfl
 have h5b:ch.2.2.2.2.2.2.2.2.2.2.2.2.1=false:=h5.2.1
 have h5c:ch.2.2.2.2.2.2.2.2.2.2.2.2.2.2.1.length=0:=h5.2.2
 unfold Bw
 rw[e1,e2,e3,e4,h2.2.1,h3,h6.2,h7]
 simp only[Ia,h4,h4b,h2.1,h2.2.2.1,h2.2.2.2,h5.1,h5b,h5c,h6.1,k2,k3,show((2:Int)==0)=false by decide,show((2:Int)==1)=false by decide,show((2:Int)==2)=true by decide,cond_false,cond_true,Bool.true_and,Bool.not_false,beq_self_eq_true,Bool.and_eq_true,beq_iff_eq,Bt,and_true]
 omega
def ClH (c:Ac) (f:Ab) (r:Ac) (fs:List Ab) (ns:List Ah):Prop:=
 Ao r≤Ao c+Ar f+400∧fs.length+Fm Ar fs≤2*(Ao c+Ar f+400)∧ns.length+Fm Dt ns≤20*(Ao c+Ar f+400)∧
 (ns=[]→r=c∧fs=[])∧fs.length≤1∧r.1=c.1∧r.2.2.1=c.2.2.1∧r.2.2.2.1=c.2.2.2.1∧(Bw c=true→Bw r=true)∧Air fs∧E8 ns∧(wfB f.2.2.2.1→wfB (C0 c).2.1→wfB (C0 r).2.1)
theorem ClH.none {c:Ac} {f:Ab}:ClH c f c [] []:=⟨by omega,by simp[Fm],by simp[Fm],fun _=>⟨rfl,rfl⟩,by simp,rfl,rfl,rfl,fun h=>h,fun f h=>(by cases h),fun n h=>(by cases h),fun _ h=>h⟩
theorem Axw (c:Ac) (n:YI) (f:Ab) (h:Ao c≤8388608) (h2:Ar f≤8388608) (ho:Bw c=true) (hn:0≤n.1∧n.1≤1000000) (hf:Cc f=true) (hk:f.1=2) (hst:c.2.2.2.2.1=1) (hcn:Dq f.2.2.1 c.2.2.2.2.2.1=true):
  ∃r fs ns t,Dg n=some t∧Qi c n f=some (r,(fs,()),(ns,()))∧ClH c f r fs ns∧
  r=Ia c 2 (Db c.2.1 c.1 f) (Aae 0 f.2.2.2.1 (Hb c.2.1 c.2.2.2.2.2.1 f.2.2.2.1 0)) t (clR c) (Azp c)∧fs=[Db c.2.1 c.1 f]∧
  ns=[((2:Int),c.1,(0:Int),c.2.2.2.2.2.1,f.2.2.2.1,(0:Int),(0:Int),([]:List YB),([]:List YB),(0:Int),(0:Int),n.1,()),Ru (D7 c.2.1) (Dm c.1 f.2.2.1 f.2.2.2.1 f.2.2.2.2.1 f.2.2.2.2.2.1)]:=by
 obtain⟨k1,k2,k3⟩:=Ae3 ho
 obtain⟨s1,s2,s3⟩:=A77 ho hst
 obtain⟨a1,a2,a3,a4,a5,a6,a7,a8,a9,a10⟩:=Aaf hf hk
 obtain⟨g1,g2,g3⟩:=Aju c.2.1 c.1 f k2 k1 hf hk
 have hek:(Hb c.2.1 c.2.2.2.2.2.1 f.2.2.2.1 0).length=32:=by
  have hroot:(E7 c.2.1 c.2.2.2.2.2.1 f.2.2.2.1).length=32:=by
   unfold E7
   have hp:inR (c.2.1.length:Int) 1 32=true:=k2
   rw[if_pos ⟨hp,s1,a2⟩]
   have:=Bt.1 hp
   exact Qu _ _ zq1 zq0
  have hfirst:(El (E7 c.2.1 c.2.2.2.2.2.1 f.2.2.2.1)).length=32:=by
   unfold El
   rw[if_pos hroot]
   exact Ami zq4 zq0
  unfold Hb
  rw[if_neg zq0]
  unfold Aab
  rw[if_pos zq0]
  exact hfirst
 obtain⟨n1,_⟩:=Ao0 0 f.2.2.2.1 (Hb c.2.1 c.2.2.2.2.2.1 f.2.2.2.1 0) (.inl rfl) a2 hek
 have hts:Dg n=some (true,n.1+1,(1:Int),(1:Int),()):=by
  unfold Dg Kq
  simp only[Aj,Al,Af,Cz,An,Bt.2 hn,Bool.not_true,Aw]
  rw[w64 zq0]
 have hpl:=Tp (id:=c.1) (cn:=f.2.2.1) (sn:=f.2.2.2.1) (tick:=f.2.2.2.2.1) (ck:=f.2.2.2.2.2.1)
 have hpb:(Dm c.1 f.2.2.1 f.2.2.2.1 f.2.2.2.2.1 f.2.2.2.2.2.1).length≤46:=by rw[hpl];cases Hf c.1 f.2.2.1 f.2.2.2.1 f.2.2.2.2.1 f.2.2.2.2.2.1<;>simp
 have hfk:=Amj c.2.1
 have hpf:=Awg c.2.1 c.1 f.2.2.1 f.2.2.2.1 f.2.2.2.2.1 f.2.2.2.2.2.1
 refine⟨_,_,_,_,hts,?_,?_,rfl,rfl,rfl⟩
 ·unfold Qi Qh
  simp only[Aj,Al,Af]
  rw[Pi c zq0,g1,A2k,hts,A5e]
  simp only[An,Bool.not_true,Aw]
  rw[n1,Ao1]
  simp only[An]
  rw[C4 _ zq2,C4 _ zq2,show Jw ((Db c.2.1 c.1 f).2.1,()) ((Db c.2.1 c.1 f).2.2.1,()) ((Db c.2.1 c.1 f).2.2.2.1,()) ((Db c.2.1 c.1 f).2.2.2.2.1,()) ((Db c.2.1 c.1 f).2.2.2.2.2.1,())=some (Dm c.1 f.2.2.1 f.2.2.2.1 f.2.2.2.2.1 f.2.2.2.2.2.1,())from Ao3 _ _ _ _ _]
  simp only[An]
  rw[A7t _ _ zq0 zq0,Aoy _ (by simp only[Ar,Db,List.length_nil];omega)]
  simp only[An]
  rfl
 ·refine⟨?_,?_,?_,fun h=>(by cases h),by simp,rfl,rfl,rfl,fun _=>?_,?_,?_,fun h _=>h⟩
  ·simp only[Ao,Ia,Db,Aae,List.length_nil,List.length_replicate];omega
  ·simp only[Fm,Ar,Db,List.length_cons,List.length_nil];omega
  ·simp only[Fm,Dt,Ru,List.length_cons,List.length_nil];omega
  ·have hla:Azp c=0:=s3
   rw[hla]
   refine Bcn ho s1 ⟨rfl,g3,rfl,hcn⟩ (A2p (.inl rfl) a2 hek) rfl (Ah8 _) ⟨rfl,rfl,rfl⟩ ⟨rfl,?_⟩ s2
   unfold Fk
   simp only[Bool.not_true,cond_false,Bool.and_eq_true,Bt]
   exact⟨by omega,by omega,by decide⟩
  ·intro x hx
   simp only[List.mem_singleton]at hx
   rw[hx];exact g3
  ·intro x hx
   simp only[List.mem_cons,List.not_mem_nil,or_false]at hx
   rcases hx with rfl|rfl
   ·rw[Jl]
    simp only[List.length_nil]
    exact⟨by omega,by omega,by omega,by omega,by omega,by omega,.inr s1,.inr a2,by omega,.inl trivial,Aiq⟩
   ·exact Az4 zq0 zq0
end
end Go.Proofs.YtmhhajdeafijmaaGreat
