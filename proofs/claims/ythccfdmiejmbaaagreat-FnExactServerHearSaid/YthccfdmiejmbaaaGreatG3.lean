/-
  That the program and the reference answer alike, in plain terms, and that the laws answer true.
-/
import Derived.Test.YthccfdmiejmbaaaGreatG2
namespace Go.Proofs.YthccfdmiejmbaaaGreat
open Go.RowKit
set_option linter.unusedVariables false
set_option linter.unusedSimpArgs false
set_option maxRecDepth 100000
set_option maxHeartbeats 16000000
noncomputable section
def Tot {α:Type} (P:α->Prop) (o:Option α):Prop:=∃a,o=some a/\P a
theorem Bbw {α β:Type} {x:Option α} {f:α->Option β} {Q:α->Prop} {P:β->Prop} (h:Tot Q x) (k: ∀a,Q a->Tot P (f a)):Tot P (ob x f):=by
 obtain⟨a,rfl,ha⟩:=h
 exact k a ha
theorem Ff {β:Type} {c:Bool} {x y:Option β} {P:β->Prop} (h1:c=true->Tot P x) (h2:c=false->Tot P y):Tot P (br c x y):=by
 cases c with
 |true=>exact h1 rfl
 |false=>exact h2 rfl
theorem Arw {β:Type} {c:Bool} {x:Option β} {P:β->Prop} (h:c=true) (k:Tot P x):Tot P (chk c x):=by
 rw[h];exact k
theorem Gc {β:Type} {a:β} {P:β->Prop} (h:P a):Tot P (some a):=⟨a,rfl,h⟩
theorem Tot.mono {α:Type} {P Q:α->Prop} {o:Option α} (h:Tot P o) (k: ∀a,P a->Q a):Tot Q o:=by
 obtain⟨a,e,p⟩:=h
 exact⟨a,e,k a p⟩
theorem Tot.both {α:Type} {P Q:α->Prop} {o:Option α} (h:Tot P o) (k:Tot Q o):Tot (fun a=>P a/\Q a) o:=by
 obtain⟨a,rfl,p⟩:=h
 obtain⟨c,e,q⟩:=k
 cases e
 exact⟨a,rfl,p,q⟩
theorem A2q {i:Int} {cn sn:List YB} {c0:Int} {c1:List YB} {c2:Int} {c3:List YB} {c4 c5:Int} {c6:List YI} {c7:Int} {c8:List YB} {c9 c10:Int} {c11:List YI} {c12:Bool} {c13:Int} {c14:List YB} {p0 p1:Int} {p2:List Av} {t la:Int}
  (h1:1<=i/\i<=9) (h2:cn.length=12) (h3:sn.length=12) (h4:Co (c0,c1,c2,c3,c4,c5,c6,c7,c8,c9,c10,c11,c12,c13,c14,())=true) (h5:c0=1) (h6:Cm c1 sn=true) (h7:Ei (p0,p1,p2,())=true) (h8:0<=t/\t<=1000000) (h9:0<=la/\la<=1000000):
  C8 (i,cn,sn,c0,c1,c2,c3,c4,c5,c6,c7,c8,c9,c10,c11,c12,c13,c14,p0,p1,p2,t,la,false,())=true:=by
 unfold C8
 dsimp only[Cq,Bp,A18,Abq,Cw]
 rw[h4,h7,Bt.2 h1,Bt.2 h8,Bt.2 h9,h6,h5,h2,h3]
 rfl
theorem Abx {s:Al} (h:C8 s=true) (hd:Cw s=false):(1<=s.1/\s.1<=9)/\s.2.1.length=12/\s.2.2.1.length=12/\(0<=A18 s/\A18 s<=1000000)/\Co (Cq s)=true/\s.2.2.2.1=1/\Cm s.2.2.2.2.1 s.2.2.1=true/\Ei (Bp s)=true/\(0<=Abq s/\Abq s<=1000000):=by
 unfold C8 at h
 rw[hd]at h
 simp only[cond_false,Bool.and_eq_true,Bt,beq_iff_eq]at h
 obtain⟨h1,h2,h3,h4,h5,h6,h7,h8,h9⟩:=h
 exact⟨h1,by omega,by omega,h4,h5,h6,h7,h8,h9⟩
theorem Fr {α:Type} {c:Bool} {x y:Option α} {r:α} (h:br c x y=some r):(c=true/\x=some r)\/(c=false/\y=some r):=by
 cases c with
 |true=>exact .inl ⟨rfl,h⟩
 |false=>exact .inr ⟨rfl,h⟩
theorem Gm {α:Type} {c:Bool} {x:Option α} {r:α} (h:chk c x=some r):x=some r:=by
 cases c with
 |true=>exact h
 |false=>cases h
theorem Arx {α β:Type} {x:Option α} {f:α->Option β} {r:β} (h:ob x f=some r): ∃a,x=some a/\f a=some r:=by
 cases x with
 |none=>cases h
 |some a=>exact⟨a,rfl,h⟩
theorem Bv4 {p p':Bd} {n:YI} {a:A6} {d:YBs} {b:Bool} (h:A8 p<=4294967296) (e:Df p n a d=some (p',(b,()))):
  (b=false->p'=p/\(Ei p=true->inR n.1 0 1000000=true->Ck a=true->d.1.length=12->p.2.2.1=[]->a.1=p.1/\a.2.1=p.2.1))/\
  (b=true->Ck a=true/\Ei p'=true/\p'.1=p.1/\p'.2.1=p.2.1/\ ¬(a.1=p.1/\a.2.1=p.2.1)/\ ∃l u,p'.2.2.1=l++[(a.1,a.2.1,d.1,u,())]/\ ∀x∈l,atA a.1 a.2.1 x=false):=by
 have hl0:p.2.2.1.length<=A8 p:=by simp only[A8];omega
 obtain⟨q',b',o1,_,o3,_,o5⟩:=L3 p n a d h
 have e0:=e
 rw[o1]at e
 simp only[Option.some.injEq,Prod.mk.injEq,and_true]at e
 obtain⟨rfl,rfl⟩:=e
 refine⟨fun hb=>⟨o3 hb,fun k1 k2 k3 k4 k5=>?_⟩,fun hb=>?_⟩
 .subst hb
  unfold Df Ae0 at e0
  simp only[Ad,Ae,Aa,Ag]at e0
  rw[Zm p zq0,Cf,Ic,Hp,N5 p h,Xv p n h]at e0
  simp only[Ab,k1,k2,k3,show((d.1.length:Int)==12)=true by simp[k4],Bool.not_true,Aj]at e0
  rcases Fr e0 with⟨c,_⟩|⟨_,e1⟩
  .simp only[Bool.and_eq_true,beq_iff_eq,and_true]at c
   exact c
  .have ht:T5 p n.1=Eg p n.1:=by unfold T5;rw[k1,k2];rfl
   have hn:(Eg p n.1).2.2.1=[]:=by show p.2.2.1.filter _=[];rw[k5];rfl
   rw[Akv _ _ (by rw[hn];simp)]at e1
   simp only[Ab,hn,L9,Id,Option.elim]at e1
   rcases Fr e1 with⟨c,_⟩|⟨_,e2⟩
   .simp at c
   .rcases Fr e2 with⟨c,_⟩|⟨_,e3⟩
    .simp at c
    .obtain⟨x,_,e4⟩:=Arx e3
     have e5:=Gm e4
     simp at e5
 .obtain⟨hp,hp'⟩:=o5 hb
  subst hb
  unfold Df Ae0 at e0
  simp only[Ad,Ae,Aa,Ag]at e0
  rw[Zm p zq0,Cf,Ic,Hp,N5 p h,Xv p n h]at e0
  simp only[Ab,hp,Bool.not_true,Aj]at e0
  rcases Fr e0 with⟨_,e1⟩|⟨c1,e1⟩
  .simp at e1
  rcases Fr e1 with⟨_,e2⟩|⟨c2,e2⟩
  .simp at e2
  rcases Fr e2 with⟨_,e3⟩|⟨c3,e3⟩
  .simp at e3
  rcases Fr e3 with⟨_,e4⟩|⟨c4,e4⟩
  .simp at e4
  have c1':inR n.1 0 1000000=true:=by simpa using c1
  have ht:T5 p n.1=Eg p n.1:=by unfold T5;rw[hp,c1'];rfl
  have htn:=A5u p n.1
  have htl:(Eg p n.1).2.2.1.length<=A8 (Eg p n.1):=by simp only[A8];omega
  rw[Akv _ _ zq0]at e4
  simp only[Ab,L9]at e4
  rcases Fr e4 with⟨_,e5⟩|⟨c5,e5⟩
  .simp at e5
  rcases Fr e5 with⟨_,e6⟩|⟨c6,e6⟩
  .simp at e6
  obtain⟨x,e7,e8⟩:=Arx e6
  have e9:=Gm e8
  have hd:d.1.length=12:=by
   have:((d.1.length:Int)==12)=true:=by simpa using c3
   have:=eq_of_beq this;omega
  rw[B0 _ zq0]at e7
  simp only[Option.some.injEq]at e7
  subst e7
  simp only[Option.some.injEq,Prod.mk.injEq,and_true]at e9
  have hf:Id (fun _ x=>atA a.1 a.2.1 x) (Eg p n.1).2.2.1 0=none:=by
   cases hf:Id (fun _ x=>atA a.1 a.2.1 x) (Eg p n.1).2.2.1 0 with
   |none=>rfl
   |some k=>rw[hf]at c5;simp only[Option.elim]at c5;have:=of_decide_eq_false c5;omega
  refine⟨by simpa using c2,hp',by rw[<-e9];rfl,by rw[<-e9];rfl,?_,(Eg p n.1).2.2.1,IntKind.i64.wrap (n.1+6),by rw[<-e9],fun x hx=>?_⟩
  .intro ⟨q1,q2⟩
   rw[q1,q2]at c4
   simp at c4
  .obtain⟨j,hj⟩:=List.getElem?_of_mem hx
   exact Ae6.1 hf j x hj
theorem Bsz {p p':Bd} {n:YI} {a:A6} {d:YBs} {b:Bool} (h:A8 p<=4294967296) (e:Qn p n a d=some (p',(b,()))):(b=false->p'=p)/\(b=true->Ei p'=true/\p'.1=a.1/\p'.2.1=a.2.1/\p.2.2.1.length>0)/\A8 p'<=A8 p+50:=by
 have hl0:p.2.2.1.length<=A8 p:=by simp only[A8];omega
 obtain⟨q',b',o1,_,o3,o4,o5⟩:=A2o p n a d h
 have e0:=e
 rw[o1]at e
 simp only[Option.some.injEq,Prod.mk.injEq,and_true]at e
 obtain⟨rfl,rfl⟩:=e
 refine⟨o3,fun hb=>?_,o4⟩
 obtain⟨hp,hp'⟩:=o5 hb
 subst hb
 unfold Qn Ag3 at e0
 simp only[Ad,Ae,Aa,Ag]at e0
 rw[Zm p zq0,Cf,N5 p h,Akv p a zq0]at e0
 simp only[Ab,hp,Bool.not_true,Aj]at e0
 rcases Fr e0 with⟨_,e1⟩|⟨c1,e1⟩
 .simp at e1
 rcases Fr e1 with⟨_,e2⟩|⟨c2,e2⟩
 .simp at e2
 obtain⟨x,e3,e4⟩:=Arx e2
 obtain⟨y,_,e5⟩:=Arx e4
 rcases Fr e5 with⟨_,e6⟩|⟨c3,e6⟩
 .simp at e6
 obtain⟨z,_,e7⟩:=Arx e6
 rcases Fr e7 with⟨_,e8⟩|⟨c4,e8⟩
 .simp at e8
 have e9:=Gm (Gm (Gm (Gm (Gm (Gm (Gm (Gm e8)))))))
 simp only[Option.some.injEq,Prod.mk.injEq,and_true]at e9
 refine⟨hp',by rw[<-e9],by rw[<-e9],?_⟩
 cases hl:p.2.2.1 with
 |nil=>rw[hl]at e3;simp[idx]at e3
 |cons _ _=>simp
def Bzj (o:Au):Prop:=Bm (o.2.2.1,o.2.2.2.1,o.2.2.2.2.1,o.2.2.2.2.2.1,o.2.2.2.2.2.2.1,o.2.2.2.2.2.2.2.1,o.2.2.2.2.2.2.2.2.1,o.2.2.2.2.2.2.2.2.2.1,o.2.2.2.2.2.2.2.2.2.2.1,o.2.2.2.2.2.2.2.2.2.2.2.1,o.2.2.2.2.2.2.2.2.2.2.2.2.1,())=true/\Ck (o.1,o.2.1,())=true
def It (l:List Au):Prop:=∀o∈l,Bzj o
theorem Bqa {s:Al} {X:Aq} {P:Bd} {n:Int} (h:C8 s=true) (hd:Cw s=false) (hX:Co X=true) (h1:X.1=1) (h2:X.2.1=(Cq s).2.1) (hP:Ei P=true) (hn:0<=n/\n<=1000000):C8 (Jo s X P n)=true:=by
 obtain⟨q1,q2,q3,q4,q5,q6,q7,q8,q9⟩:=Abx h hd
 have hd':s.2.2.2.2.2.2.2.2.2.2.2.2.2.2.2.2.2.2.2.2.2.2.2.1=false:=hd
 unfold Jo
 rw[hd']
 exact A2q q1 q2 q3 hX h1 (by rw[h2];exact q7) hP q4 hn
theorem K4 {a b:List Am} (h:Ht a) (k:Ht b):Ht (a++b):=fun n hn=>by
 rcases List.mem_append.1 hn with hn|hn
 .exact h n hn
 .exact k n hn
theorem Ey {n:Am} (h:Kf n=true):Ht [n]:=fun m hm=>by
 rw[List.mem_singleton.1 hm];exact h
theorem Bbx {a b:List Au} (h:It a) (k:It b):It (a++b):=fun n hn=>by
 rcases List.mem_append.1 hn with hn|hn
 .exact h n hn
 .exact k n hn
theorem Bv5 {s1 r:Al} {X0:Aq} {P:Bd} {s:Al} {n:Int} {ep:YI} {p:YBs} {os:List Au} {ns:List Am} (he:s1=Jo s X0 P n) (hs:C8 s=true) (hd:Cw s=false) (hX:Co X0=true) (h1:X0.1=1) (h2:X0.2.1=(Cq s).2.1) (hP:Ei P=true) (hc:Aw X0<=50000000)
  (h:W7 s1 ep p=some (r,(os,()),(ns,()))): ∃X,r=Jo s X P n/\Co X=true/\X.1=1/\X.2.1=(Cq s).2.1/\Aw X<=Aw X0+200/\It os/\Ht ns:=by
 subst he
 obtain⟨q1,q2,q3,q4,q5,q6,q7,q8,q9⟩:=Abx hs hd
 obtain⟨X,zr,r1,_,R1,R2,R3⟩:=A2p X0 ep p zq0
 have nil:It []/\Ht []:=⟨fun _ h=>(by cases h),fun _ h=>(by cases h)⟩
 have hck:=En X
 unfold W7 Wz at h
 simp only[Ad,Ae,Aa,Ag]at h
 rw[show Rk (Cq (Jo s X0 P n)) ep p=some (X,(zr,()))from r1]at h
 simp only[Ab]at h
 rcases Fr h with⟨c0,h⟩|⟨c0,h⟩
 .simp only[Option.some.injEq,Prod.mk.injEq,and_true]at h
  obtain⟨hq,rfl,rfl⟩:=h
  exact⟨X0,hq.symm,hX,h1,h2,by omega,nil⟩
 have hz:zr=0:=by simpa using c0
 obtain⟨_,_,R4,R5,R6⟩:=R3 hz
 have hR5:X.1=1:=by rw[R5,h1]
 have hR6:X.2.1=(Cq s).2.1:=by rw[R6,h2]
 have hcf:=Ig R4
 have hcfe:=Fa hcf.2.2.1
 have hN:0<=X.2.2.1/\X.2.2.1<=4294967295:=hcfe.1
 have hK:X.2.2.2.1.length=32:=hcfe.2.1
 obtain⟨y,g,za,k1,_,K1,K2,K3⟩:=Bbr X zq0
 have hyk:=En y
 have turn:Kf ((10:Int),(0:Int),(1:Int),([]:List YB),s.2.2.1,X.2.2.1,(0:Int),([]:List YB),X.2.2.2.1,(0:Int),(0:Int),(0:Int),())=true:=by
  rw[Kp]
  simp only[List.length_nil]
  exact⟨by omega,by omega,by omega,hN,by omega,by omega,.inl trivial,.inr q3,by omega,.inr hK,Bbv⟩
 have ackd:za=0->Co y=true/\y.1=1/\y.2.1=(Cq s).2.1/\Bm g=true:=fun hza=>by
  obtain⟨e',E1,_,_,_,E5⟩:=K3 hza
  obtain⟨_,c2,c3,c4,c5,c6⟩:=E5 rfl
  exact⟨c2,by rw[E1];exact hR5,by rw[E1];exact hR6,by rw[c5];exact Ac9 c6⟩
 have hAt:Ck ((Bp (Jo s X0 P n)).1,(Bp (Jo s X0 P n)).2.1,())=true:=by
  obtain⟨x1,x2,x3,⟨⟩⟩:=P
  exact(K0.1 hP).1
 have sent:za=0->It [((Bp (Jo s X0 P n)).1,(Bp (Jo s X0 P n)).2.1,g.1,g.2.1,g.2.2.1,g.2.2.2.1,g.2.2.2.2.1,g.2.2.2.2.2.1,g.2.2.2.2.2.2.1,g.2.2.2.2.2.2.2.1,g.2.2.2.2.2.2.2.2.1,g.2.2.2.2.2.2.2.2.2.1,g.2.2.2.2.2.2.2.2.2.2.1,())]:=fun hza o ho=>by
  rw[List.mem_singleton.1 ho]
  exact⟨(ackd hza).2.2.2,hAt⟩
 rw[k1]at h
 simp only[Ab]at h
 rw[Ie y g zq0 zq0]at h
 rcases Fr h with⟨_,h⟩|⟨_,h⟩
 .rw[B0 _ (by show s.2.2.1.length<=_;omega),B0 _ zq2]at h
  simp only[Ab]at h
  have h:=Gm h
  rcases Fr h with⟨_,h⟩|⟨c2,h⟩
  .simp only[Option.some.injEq,Prod.mk.injEq,and_true,List.nil_append]at h
   obtain⟨hq,rfl,rfl⟩:=h
   exact⟨X,hq.symm,R4,hR5,hR6,R2,nil.1,Ey turn⟩
  .have h:=Gm h
   have hza:za=0:=by simpa using c2
   simp only[Option.some.injEq,Prod.mk.injEq,and_true,List.nil_append]at h
   obtain⟨hq,rfl,rfl⟩:=h
   obtain⟨A1,A2,A3,A4⟩:=ackd hza
   exact⟨y,hq.symm,A1,A2,A3,by omega,sent hza,K4 (Ey turn) (Ey (Aww A1))⟩
 .rcases Fr h with⟨_,h⟩|⟨c2,h⟩
  .simp only[Option.some.injEq,Prod.mk.injEq,and_true]at h
   obtain⟨hq,rfl,rfl⟩:=h
   exact⟨X,hq.symm,R4,hR5,hR6,R2,nil⟩
  .simp only[Ab]at h
   have h:=Gm h
   have hza:za=0:=by simpa using c2
   simp only[Option.some.injEq,Prod.mk.injEq,and_true,List.nil_append]at h
   obtain⟨hq,rfl,rfl⟩:=h
   obtain⟨A1,A2,A3,A4⟩:=ackd hza
   exact⟨y,hq.symm,A1,A2,A3,by omega,sent hza,Ey (Aww A1)⟩
end
end Go.Proofs.YthccfdmiejmbaaaGreat
