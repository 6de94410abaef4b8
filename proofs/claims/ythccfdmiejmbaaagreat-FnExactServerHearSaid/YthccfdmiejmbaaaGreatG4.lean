/-
  That the program and the reference answer alike, in plain terms, and that the laws answer true.
-/
import Derived.Test.YthccfdmiejmbaaaGreatG3
namespace Go.Proofs.YthccfdmiejmbaaaGreat
open Go.RowKit
set_option linter.unusedVariables false
set_option linter.unusedSimpArgs false
set_option maxRecDepth 100000
set_option maxHeartbeats 16000000
noncomputable section
theorem Bv6 {c:Aq} {k:Int} {p:List YB} {c':Aq} {f:As} (h:ChS c k p c' f 0):Co c'=true/\c'.1=c.1/\Nl c'=Nl c/\Bm f=true/\Kf (Gl c' f)=true/\Aw c'=Aw c/\A5 f<=Aw c+p.length+32/\f.2.2.2.1=c.2.1:=by
 obtain⟨e',G1,q2,q3,q4,q5⟩:=h
 obtain⟨w1,w2,w3,w4,w5,w6⟩:=q5 rfl
 have s3:=Ac9 w6
 rw[<-w5]at s3
 exact⟨w2,by rw[G1];rfl,by rw[G1];rfl,s3,Aww w2,q2,q3,by rw[w5];exact Bvv w6⟩
def B1u (a b:Al):Prop:=Cm a.2.2.1 b.2.2.1=false
theorem Bpb {l:List Al}:Dz (Lg l) l=true↔(∀x∈l,C8 x=true)/\l.Pairwise B1u:=by
 have hq: ∀(i:Nat) (x:Al),l[i]? =some x->(Lg l i x=false↔C8 x=true/\Dz (fun _ (y:Al)=>Cm y.2.2.1 x.2.2.1) (l.take i)=true):=fun i x hx=>by
  unfold Lg Ed
  rw[A3m (q:=fun y:Al=>Cm y.2.2.1 x.2.2.1) hx (Qs _)]
  simp only[Bool.not_not,Bool.not_eq_false',Bool.and_eq_true]
 rw[Hq,List.pairwise_iff_getElem]
 constructor
 .intro h
  refine⟨fun x hx=>?_,fun i j hi hj hij=>?_⟩
  .obtain⟨j,hj⟩:=List.getElem?_of_mem hx
   exact((hq j x hj).1 (h j x hj)).1
  .have h1:=((hq j l[j] (List.getElem?_eq_getElem hj)).1 (h j l[j] (List.getElem?_eq_getElem hj))).2
   rw[Hq]at h1
   exact h1 i l[i] (by rw[List.getElem?_take,if_pos hij];exact List.getElem?_eq_getElem hi)
 .rintro⟨h1,h2⟩ j x hj
  refine(hq j x hj).2 ⟨h1 x (List.mem_of_getElem? hj),Hq.2 fun i y hi=>?_⟩
  rw[List.getElem?_take]at hi
  split at hi
  .rename_i hlt
   obtain⟨k1,k2⟩:=List.getElem?_eq_some_iff.1 hi
   obtain⟨k3,k4⟩:=List.getElem?_eq_some_iff.1 hj
   have:=h2 i j k1 k3 hlt
   rw[k2,k4]at this
   exact this
  .cases hi
theorem Zq {c:Int} {l:List Al} (hl:l.length<=4294967296):I8 (c,l,())=true↔(1<=c/\c<=6)/\l.length<=12/\(Fh l:Int)<=c/\(∀x∈l,C8 x=true)/\l.Pairwise B1u:=by
 unfold I8
 rw[Ko (c,l,()) hl]
 simp only[Bool.and_eq_true,Bool.not_eq_true',decide_eq_false_iff_not,Bt,Bpb]
 constructor
 .rintro⟨h1,h2,h3,h4⟩;exact⟨h1,by omega,by omega,h4⟩
 .rintro⟨h1,h2,h3,h4⟩;exact⟨h1,by omega,by omega,h4⟩
theorem Bpc {l:List Al} {s:List YB} (h:Ed l s<0): ∀x∈l,Cm x.2.2.1 s=false:=fun x hx=>by
 obtain⟨i,hi⟩:=List.getElem?_of_mem hx
 cases hs:Cm x.2.2.1 s with
 |false=>rfl
 |true=>
  have:=(Ahz (q:=fun y:Al=>Cm y.2.2.1 s) hi hs).1
  unfold Ed at h
  omega
theorem Bv7 {l:List Al} {i:Nat} {x:Al} {s:List YB} (hx:l[i]? =some x) (hs:Cm x.2.2.1 s=true) (hb: ∀j y,j<i->l[j]? =some y->Cm y.2.2.1 s=false):Ed l s=(i:Int):=by
 have h1:=Ahz (q:=fun y:Al=>Cm y.2.2.1 s) hx hs
 have h2:=A3m (q:=fun y:Al=>Cm y.2.2.1 s) hx hs
 have h3:Dz (fun _ (y:Al)=>Cm y.2.2.1 s) (l.take i)=true:=Hq.2 fun j y hj=>by
  rw[List.getElem?_take]at hj
  split at hj
  .rename_i hlt;exact hb j y hlt hj
  .cases hj
 rw[h3]at h2
 simp only[Bool.not_true,decide_eq_false_iff_not]at h2
 unfold Ed
 omega
theorem Bs0 {l:List Al} {x:Al}:Fh (l++[x])=Fh l+(if Cw x=true then 0 else 1):=by
 unfold Fh
 rw[List.countP_append]
 cases h:Cw x<;>simp[List.countP_cons,h]
def Bx2 (t:B8) (s:Al) (x:B8) (co:Int):Prop:=
 (co≠0->x=t)/\(co=0->I8 t=true/\C8 s=true/\Cw s=false/\Ed t.2.1 s.2.2.1<0/\Eh t≠t.1/\t.2.1.length≠12/\x=(t.1,t.2.1++[s],()))
theorem Bzk (t:B8) (s:Al) (h:Bj t+Ap s<=1073741824):Tot (fun r=>Bx2 t s r.1 r.2.1) (Wd t s):=by
 have hl:t.2.1.length<=Bj t:=by simp only[Bj];omega
 unfold Wd Ad9
 simp only[Ad,Ae,Aa,Ag]
 rw[Amd t zq0,Ab,Arg t zq0,Ab,Xr s zq0,Qr t _ zq0,Blc t zq0,Nm s zq0]
 simp only[Ab]
 have no: ∀c:Int,c≠0->Tot (fun r:B8×YI=>Bx2 t s r.1 r.2.1) (some (t,(c,()))):=fun c hc=>Gc ⟨fun _=>rfl,fun h=>(hc h).elim⟩
 refine Ff (fun _=>no 1 zq7) fun h1=>Ff (fun _=>no 1 zq7) fun h2=>Ff (fun _=>no 1 zq7) fun h3=>Ff (fun _=>no 3 zq7) fun h4=>Ff (fun _=>no 7 zq7) fun h5=>Ff (fun _=>no 7 zq7) fun h6=>?_
 refine Arw zq1 (Gc ⟨fun h=>(h rfl).elim,fun _=>?_⟩)
 simp only[Bool.not_eq_false',decide_eq_false_iff_not]at h1 h2 h4
 refine⟨h1,h2,h3,by omega,by simpa using h5,?_,rfl⟩
 intro e
 rw[e]at h6
 simp at h6
theorem Bv8 {t:B8} {s:Al} {x:B8} {co:Int} (hl:t.2.1.length<=4294967296) (h:Bx2 t s x co) (hc:co=0):I8 x=true/\Eh x=Eh t+1/\Ed x.2.1 s.2.2.1=(t.2.1.length:Int)/\Eh t<t.1:=by
 obtain⟨h1,h2,h3,h4,h5,h6,rfl⟩:=h.2 hc
 obtain⟨c,l,⟨⟩⟩:=t
 dsimp only at hl h1 h4 h5 h6 ⊢
 obtain⟨q1,q2,q3,q4,q5⟩:=(Zq hl).1 h1
 have hl2:(l++[s]).length<=4294967296:=by simp;omega
 have e1:Eh (c,l,())=((Fh l:Nat):Int):=Ko (c,l,()) hl
 have e2:Eh (c,l++[s],())=((Fh (l++[s]):Nat):Int):=Ko (c,l++[s],()) hl2
 have h5:Eh (c,l,())≠c:=h5
 have e3:Fh (l++[s])=Fh l+1:=by rw[Bs0,h3];rfl
 have hnone:=Bpc h4
 refine⟨(Zq hl2).2 ⟨q1,by simp;omega,by rw[e3];omega,fun x hx=>?_,?_⟩,(show Eh (c,l++[s],())=Eh (c,l,())+1 by rw[e1,e2,e3];omega),?_,(show Eh (c,l,())<c by rw[e1]at h5 ⊢;omega)⟩
 .rcases List.mem_append.1 hx with hx|hx
  .exact q4 x hx
  .simp at hx;rw[hx];exact h2
 .refine List.pairwise_append.2 ⟨q5,List.pairwise_singleton _ _,fun a ha b hb=>?_⟩
  simp at hb;subst hb
  exact hnone a ha
 .refine Bv7 (x:=s) zq3 (Qs _) fun j y hj hy=>?_
  rw[List.getElem?_append_left hj]at hy
  exact hnone y (List.mem_of_getElem? hy)
theorem Bx3 {s:Al} {c:Aq} {p:Bd} (h:C8 s=true) (hd:Cw s=false) (hc:Co c=true) (h1:c.1=(Cq s).1) (h2:c.2.1=(Cq s).2.1) (hp:Ei p=true):
  C8 (s.1,s.2.1,s.2.2.1,c.1,c.2.1,c.2.2.1,c.2.2.2.1,c.2.2.2.2.1,c.2.2.2.2.2.1,c.2.2.2.2.2.2.1,c.2.2.2.2.2.2.2.1,c.2.2.2.2.2.2.2.2.1,c.2.2.2.2.2.2.2.2.2.1,c.2.2.2.2.2.2.2.2.2.2.1,c.2.2.2.2.2.2.2.2.2.2.2.1,c.2.2.2.2.2.2.2.2.2.2.2.2.1,c.2.2.2.2.2.2.2.2.2.2.2.2.2.1,c.2.2.2.2.2.2.2.2.2.2.2.2.2.2.1,p.1,p.2.1,p.2.2.1,A18 s,Abq s,Cw s,())=true:=by
 obtain⟨q1,q2,q3,q4,q5,q6,q7,q8,q9⟩:=Abx h hd
 obtain⟨c0,c1,c2,c3,c4,c5,c6,c7,c8,c9,c10,c11,c12,c13,c14,⟨⟩⟩:=c
 obtain⟨p0,p1,p2,⟨⟩⟩:=p
 rw[hd]
 have h1:c0=s.2.2.2.1:=h1
 have h2:c1=s.2.2.2.2.1:=h2
 exact A2q q1 q2 q3 hc (h1.trans q6) (by rw[h2];exact q7) hp q4 q9
def Qv (s:A0):B8:=(s.2.2.2.2.1,s.2.2.2.2.2.1,())
theorem Eb {s:A0}:Em s=true↔inR (s.1.length:Int) 1 9=true/\((s.2.1.length:Int)==32)=true/\Ga (s.2.2.1,s.2.2.2.1,())=true/\I8 (s.2.2.2.2.1,s.2.2.2.2.2.1,())=true/\Ch s.2.2.2.2.2.2.1=true/\Dz (fun _ x=> !L6 x) s.1=true/\ ∀x∈s.2.2.2.2.2.1,x.1<=(s.1.length:Int):=by
 have key:Dz (fun _ (x:Al)=>decide (x.1>(s.1.length:Int))) s.2.2.2.2.2.1=true↔ ∀x∈s.2.2.2.2.2.1,x.1<=(s.1.length:Int):=by
  rw[Hq]
  constructor
  .intro h x hx
   obtain⟨j,hj⟩:=List.getElem?_of_mem hx
   have:=h j x hj
   simp only[decide_eq_false_iff_not]at this
   omega
  .intro h j x hj
   have:=h x (List.mem_of_getElem? hj)
   simp only[decide_eq_false_iff_not]
   omega
 unfold Em
 simp only[Bool.and_eq_true,key]
theorem Bz9 (b:List YB) (n:Int) (hl:b.length<=1073741824):Fd (b,()) (n,()) ((2:Int),())=some (b++Fj n 2 2,()):=Blf b n 2 zq0 zq0 hl
theorem B0a (b:List YB) (n:Int) (hl:b.length<=1073741824):El (b,()) (n,()) ((2:Int),())=some (b++Fj n 2 2,()):=Bbh b n 2 zq0 zq0 hl
theorem Bg6 {s:List YB} {n:Int} (h:Ga (s,n,())=true):(T4 s n).length=12:=by
 unfold Ga at h
 simp only[Bool.and_eq_true]at h
 have h1:=Bt.1 h.1
 unfold T4
 rw[if_pos ⟨h.1,h.2⟩,List.length_take,Sd _ _ zq0 (by simp[Ame,Fe])]
 decide
end
end Go.Proofs.YthccfdmiejmbaaaGreat
