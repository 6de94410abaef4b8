/-
  That the program and the reference answer alike, in plain terms, and that the laws answer true.
-/
import Derived.Test.YtmhhajdeafijmaaGreatL32
namespace Go.Proofs.YtmhhajdeafijmaaGreat
open Go.RowKit
set_option linter.unusedVariables false
set_option linter.unusedSimpArgs false
set_option maxRecDepth 100000
set_option maxHeartbeats 8000000
noncomputable section
def Dn (c:Ab) (st:Int) (fi:Aa) (ch:Af) (t r:A9) (la:Int):Ab:=(c.1,c.2.1,c.2.2.1,c.2.2.2.1,st,c.2.2.2.2.2.1,fi.1,fi.2.1,fi.2.2.1,fi.2.2.2.1,fi.2.2.2.2.1,fi.2.2.2.2.2.1,fi.2.2.2.2.2.2.1,fi.2.2.2.2.2.2.2.1,fi.2.2.2.2.2.2.2.2.1,fi.2.2.2.2.2.2.2.2.2.1,fi.2.2.2.2.2.2.2.2.2.2.1,ch.1,ch.2.1,ch.2.2.1,ch.2.2.2.1,ch.2.2.2.2.1,ch.2.2.2.2.2.1,ch.2.2.2.2.2.2.1,ch.2.2.2.2.2.2.2.1,ch.2.2.2.2.2.2.2.2.1,ch.2.2.2.2.2.2.2.2.2.1,ch.2.2.2.2.2.2.2.2.2.2.1,ch.2.2.2.2.2.2.2.2.2.2.2.1,ch.2.2.2.2.2.2.2.2.2.2.2.2.1,ch.2.2.2.2.2.2.2.2.2.2.2.2.2.1,ch.2.2.2.2.2.2.2.2.2.2.2.2.2.2.1,t.1,t.2.1,t.2.2.1,t.2.2.2.1,r.1,r.2.1,r.2.2.1,r.2.2.2.1,la,())
theorem Og {c:Ab} (h:A0 c=true):(1≤c.1∧c.1≤9)∧Gx (c.2.1,())=true∧Gc (c.2.2.1,c.2.2.2.1,())=true:=by
 unfold A0 at h
 simp only[Bool.and_eq_true,A6]at h
 exact⟨h.1,h.2.1,h.2.2.1⟩
theorem A7a {c:Ab} (h:A0 c=true) (hs:c.2.2.2.2.1=1):c.2.2.2.2.2.1.length=12∧Gs (clR c)=true∧Dr c=0:=by
 unfold A0 at h
 rw[hs]at h
 simp only[show((1:Int)==0)=false by decide,show((1:Int)==1)=true by decide,cond_false,cond_true,Bool.and_eq_true,beq_iff_eq]at h
 exact⟨by omega,h.2.2.2.2.2.2.2.2.1,h.2.2.2.2.2.2.2.2.2⟩
theorem Azs {c:Ab} (h:A0 c=true) (hs:c.2.2.2.2.1=2):c.2.2.2.2.2.1.length=12∧Bd (Bm c)=true∧(Bm c).1=0∧(Bl (Bm c)).length=0∧Gs (clR c)=true:=by
 unfold A0 at h
 rw[hs]at h
 simp only[show((2:Int)==0)=false by decide,show((2:Int)==1)=false by decide,show((2:Int)==2)=true by decide,cond_false,cond_true,Bool.and_eq_true,beq_iff_eq]at h
 obtain⟨_,_,_,⟨a1,_,_,_,_,a6,a7,_,_,_,a11⟩,_,_,b3,_⟩:=h
 exact⟨by omega,a6,a7,by have:((Bl (Bm c)).length:Int)=0:=a11;omega,b3⟩
theorem Th {c:Ab} (h:A0 c=true) (hs:c.2.2.2.2.1=3):c.2.2.2.2.2.1.length=12∧frZ (Cr c)=true∧Bd (Bm c)=true∧(Bm c).1=0∧Gs (clT c)=true∧Bp (clR c)=true∧(clR c).1=decide (((Bl (Bm c)).length:Int)>0):=by
 unfold A0 at h
 rw[hs]at h
 simp only[show((3:Int)==0)=false by decide,show((3:Int)==1)=false by decide,show((3:Int)==2)=false by decide,show((3:Int)==3)=true by decide,cond_false,cond_true,Bool.and_eq_true,beq_iff_eq]at h
 obtain⟨_,_,_,a1,a2,a3,a4,a5,a6,a7,_⟩:=h
 exact⟨by omega,a2,a3,a4,a5,a6,a7⟩
theorem Axo {c:Ab} {fi:Aa} {ch:Af} {t r:A9} {la:Int} (h:A0 c=true) (h1:c.2.2.2.2.2.1.length=12) (h2:frZ fi=true) (h3:Bd ch=true) (h4:ch.1=0) (h5:Gs t=true) (h6:Bp r=true) (h7:r.1=decide (((Bl ch).length:Int)>0)) (h8:0≤la∧la≤1000000):
  A0 (Dn c 3 fi ch t r la)=true:=by
 obtain⟨k1,k2,k3⟩:=Og h
 have e1:Cr (Dn c 3 fi ch t r la)=fi:=rfl
 have e2:Bm (Dn c 3 fi ch t r la)=ch:=rfl
 have e3:clT (Dn c 3 fi ch t r la)=t:=rfl
 have e4:clR (Dn c 3 fi ch t r la)=r:=rfl
 unfold A0
 rw[e1,e2,e3,e4,h2,h3,h5,h6]
 simp only[Dn,h4,h7,k2,k3,Bl,show((3:Int)==0)=false by decide,show((3:Int)==1)=false by decide,show((3:Int)==2)=false by decide,show((3:Int)==3)=true by decide,cond_false,cond_true,Bool.true_and,beq_self_eq_true,Bool.and_eq_true,beq_iff_eq,A6]
 omega
theorem Bb4 {c:Ab} {fi:Aa} {ch:Af} {t r:A9} (h:A0 c=true) (h1:c.2.2.2.2.2.1.length=12) (h2:fi.1=3∧Bg fi=true∧fi.2.1=c.1∧Dt fi.2.2.1 c.2.2.2.2.2.1=true) (h3:Bd ch=true) (h4:ch.1=0) (h4b:Dt ch.2.1 fi.2.2.2.1=true) (h5:ch.2.2.1=0∧Na ch=false∧(Bl ch).length=0) (h6:t.1=true∧Bp t=true) (h7:Gs r=true):
  A0 (Dn c 2 fi ch t r 0)=true:=by
 obtain⟨k1,k2,k3⟩:=Og h
 have e1:Cr (Dn c 2 fi ch t r 0)=fi:=rfl
 have e2:Bm (Dn c 2 fi ch t r 0)=ch:=rfl
 have e3:clT (Dn c 2 fi ch t r 0)=t:=rfl
 have e4:clR (Dn c 2 fi ch t r 0)=r:=rfl
 have h5b:ch.2.2.2.2.2.2.2.2.2.2.2.2.1=false:=h5.2.1
 have h5c:ch.2.2.2.2.2.2.2.2.2.2.2.2.2.2.1.length=0:=h5.2.2
 unfold A0
 rw[e1,e2,e3,e4,h2.2.1,h3,h6.2,h7]
 simp only[Dn,h4,h4b,h2.1,h2.2.2.1,h2.2.2.2,h5.1,h5b,h5c,h6.1,k2,k3,show((2:Int)==0)=false by decide,show((2:Int)==1)=false by decide,show((2:Int)==2)=true by decide,cond_false,cond_true,Bool.true_and,Bool.not_false,beq_self_eq_true,Bool.and_eq_true,beq_iff_eq,A6,and_true]
 omega
def ClH (c:Ab) (f:Aa) (r:Ab) (fs:List Aa) (ns:List Ae):Prop:=
 Al r≤Al c+As f+400∧fs.length+F3 As fs≤2*(Al c+As f+400)∧ns.length+F3 D0 ns≤20*(Al c+As f+400)∧
 (ns=[]→r=c∧fs=[])∧fs.length≤1∧r.1=c.1∧r.2.2.1=c.2.2.1∧r.2.2.2.1=c.2.2.2.1∧(A0 c=true→A0 r=true)∧N3 fs∧Ed ns∧(wfB f.2.2.2.1→wfB (Bm c).2.1→wfB (Bm r).2.1)
theorem ClH.none {c:Ab} {f:Aa}:ClH c f c [] []:=⟨by omega,by simp[F3],by simp[F3],fun _=>⟨rfl,rfl⟩,by simp,rfl,rfl,rfl,fun h=>h,fun f h=>(by cases h),fun n h=>(by cases h),fun _ h=>h⟩
theorem Ajw (c:Ab) (n:YI) (f:Aa) (h:Al c≤8388608) (h2:As f≤8388608) (ho:A0 c=true) (hn:0≤n.1∧n.1≤1000000) (hf:Bg f=true) (hk:f.1=2) (hst:c.2.2.2.2.1=1) (hcn:Dt f.2.2.1 c.2.2.2.2.2.1=true):
  ∃r fs ns t,Cn n=some t∧Q5 c n f=some (r,(fs,()),(ns,()))∧ClH c f r fs ns∧
  r=Dn c 2 (C6 c.2.1 c.1 f) (C5 0 f.2.2.2.1 (Ei c.2.1 c.2.2.2.2.2.1 f.2.2.2.1 0)) t (clR c) (Dr c)∧fs=[C6 c.2.1 c.1 f]∧
  ns=[((2:Int),c.1,(0:Int),c.2.2.2.2.2.1,f.2.2.2.1,(0:Int),(0:Int),([]:List YB),([]:List YB),(0:Int),(0:Int),n.1,()),Se (Ek c.2.1) (Du c.1 f.2.2.1 f.2.2.2.1 f.2.2.2.2.1 f.2.2.2.2.2.1)]:=by
 obtain⟨k1,k2,k3⟩:=Og ho
 obtain⟨s1,s2,s3⟩:=A7a ho hst
 obtain⟨a1,a2,a3,a4,a5,a6,a7,a8,a9,a10⟩:=Lp hf hk
 obtain⟨g1,g2,g3⟩:=Ajv c.2.1 c.1 f k2 k1 hf hk
 have hek:(Ei c.2.1 c.2.2.2.2.2.1 f.2.2.2.1 0).length=32:=by
  have hroot:(Fl c.2.1 c.2.2.2.2.2.1 f.2.2.2.1).length=32:=by
   unfold Fl
   have hp:inR (c.2.1.length:Int) 1 32=true:=k2
   rw[if_pos ⟨hp,s1,a2⟩]
   have:=A6.1 hp
   exact Rg _ _ zq1 zq0
  have hfirst:(Eu (Fl c.2.1 c.2.2.2.2.2.1 f.2.2.2.1)).length=32:=by
   unfold Eu
   rw[if_pos hroot]
   exact Tg zq4 zq0
  unfold Ei
  rw[if_neg zq0]
  unfold Aav
  rw[if_pos zq0]
  exact hfirst
 obtain⟨n1,_⟩:=Ad6 0 f.2.2.2.1 (Ei c.2.1 c.2.2.2.2.2.1 f.2.2.2.1 0) (.inl rfl) a2 hek
 have hts:Cn n=some (true,n.1+1,(1:Int),(1:Int),()):=by
  unfold Cn Iw
  simp only[Ag,Ai,Ad,Cb,Aj,A6.2 hn,Bool.not_true,An]
  rw[w64 zq0]
 have hpl:=T9 (id:=c.1) (cn:=f.2.2.1) (sn:=f.2.2.2.1) (tick:=f.2.2.2.2.1) (ck:=f.2.2.2.2.2.1)
 have hpb:(Du c.1 f.2.2.1 f.2.2.2.1 f.2.2.2.2.1 f.2.2.2.2.2.1).length≤46:=by rw[hpl];cases Hq c.1 f.2.2.1 f.2.2.2.1 f.2.2.2.2.1 f.2.2.2.2.2.1<;>simp
 have hfk:=Ama c.2.1
 have hpf:=Av5 c.2.1 c.1 f.2.2.1 f.2.2.2.1 f.2.2.2.2.1 f.2.2.2.2.2.1
 refine⟨_,_,_,_,hts,?_,?_,rfl,rfl,rfl⟩
 ·unfold Q5 Afa
  simp only[Ag,Ai,Ad]
  rw[Gd c zq0,g1,Adz,hts,A4q]
  simp only[Aj,Bool.not_true,An]
  rw[n1,Aox]
  simp only[Aj]
  rw[Cd _ zq2,Cd _ zq2,show Kc ((C6 c.2.1 c.1 f).2.1,()) ((C6 c.2.1 c.1 f).2.2.1,()) ((C6 c.2.1 c.1 f).2.2.2.1,()) ((C6 c.2.1 c.1 f).2.2.2.2.1,()) ((C6 c.2.1 c.1 f).2.2.2.2.2.1,())=some (Du c.1 f.2.2.1 f.2.2.2.1 f.2.2.2.2.1 f.2.2.2.2.2.1,())from Aoz _ _ _ _ _]
  simp only[Aj]
  rw[A61 _ _ zq0 zq0,Ady _ (by simp only[As,C6,List.length_nil];omega)]
  simp only[Aj]
  rfl
 ·refine⟨?_,?_,?_,fun h=>(by cases h),by simp,rfl,rfl,rfl,fun _=>?_,?_,?_,fun h _=>h⟩
  ·simp only[Al,Dn,C6,C5,List.length_nil,List.length_replicate];omega
  ·simp only[F3,As,C6,List.length_cons,List.length_nil];omega
  ·simp only[F3,D0,Se,List.length_cons,List.length_nil];omega
  ·have hla:Dr c=0:=s3
   rw[hla]
   refine Bb4 ho s1 ⟨rfl,g3,rfl,hcn⟩ (Aow (.inl rfl) a2 hek) rfl (Pu _) ⟨rfl,rfl,rfl⟩ ⟨rfl,?_⟩ s2
   unfold Bp
   simp only[Bool.not_true,cond_false,Bool.and_eq_true,A6]
   exact⟨by omega,by omega,by decide⟩
  ·intro x hx
   simp only[List.mem_singleton]at hx
   rw[hx];exact g3
  ·intro x hx
   simp only[List.mem_cons,List.not_mem_nil,or_false]at hx
   rcases hx with rfl|rfl
   ·rw[Gy]
    simp only[List.length_nil]
    exact⟨by omega,by omega,by omega,by omega,by omega,by omega,.inr s1,.inr a2,by omega,.inl trivial,Xi⟩
   ·exact Azq zq0 zq0
end
end Go.Proofs.YtmhhajdeafijmaaGreat
