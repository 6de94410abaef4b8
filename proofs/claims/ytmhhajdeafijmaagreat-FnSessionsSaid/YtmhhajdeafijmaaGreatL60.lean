/-
  That the program and the reference answer alike, in plain terms, and that the laws answer true.
-/
import Derived.Test.YtmhhajdeafijmaaGreatL59
namespace Go.Proofs.YtmhhajdeafijmaaGreat
open Go.RowKit
set_option linter.unusedVariables false
set_option linter.unusedSimpArgs false
set_option maxRecDepth 100000
set_option maxHeartbeats 8000000
noncomputable section
theorem Ea {α:Type} {c:Bool} {x y:Option α} {r:α} (h:br c x y=some r):(c=true∧x=some r)∨(c=false∧y=some r):=by
 cases c with
 |true=>exact .inl ⟨rfl,h⟩
 |false=>exact .inr ⟨rfl,h⟩
theorem En {α:Type} {c:Bool} {x:Option α} {r:α} (h:chk c x=some r):x=some r:=by
 cases c with
 |true=>exact h
 |false=>cases h
theorem Tr {α β:Type} {x:Option α} {f:α→Option β} {r:β} (h:ob x f=some r): ∃a,x=some a∧f a=some r:=by
 cases x with
 |none=>cases h
 |some a=>exact⟨a,rfl,h⟩
theorem A3r {p p':Bb} {n:YI} {a:B7} {d:YBs} {b:Bool} (h:As p≤4294967296) (e:Cc p n a d=some (p',(b,()))):
  (b=false→p'=p∧(Cq p=true→inR n.1 0 1000000=true→Dp a=true→d.1.length=12→p.2.2.1=[]→a.1=p.1∧a.2.1=p.2.1))∧
  (b=true→Dp a=true∧Cq p'=true∧p'.1=p.1∧p'.2.1=p.2.1∧ ¬(a.1=p.1∧a.2.1=p.2.1)∧ ∃l u,p'.2.2.1=l++[(a.1,a.2.1,d.1,u,())]∧ ∀x∈l,atA a.1 a.2.1 x=false):=by
 have hl0:p.2.2.1.length≤As p:=by simp only[As];omega
 obtain⟨q',b',o1,_,o3,_,o5⟩:=F5 p n a d h
 have e0:=e
 rw[o1]at e
 simp only[Option.some.injEq,Prod.mk.injEq,and_true]at e
 obtain⟨rfl,rfl⟩:=e
 refine⟨fun hb=>⟨o3 hb,fun k1 k2 k3 k4 k5=>?_⟩,fun hb=>?_⟩
 ·subst hb
  unfold Cc Tb at e0
  simp only[Ae,Ai,Ac,Aj]at e0
  rw[J2 p zq0,Ch,Kf,Hk,Gb p h,Oj p n h]at e0
  simp only[Ag,k1,k2,k3,show((d.1.length:Int)==12)=true by simp[k4],Bool.not_true,Am]at e0
  rcases Ea e0 with⟨c,_⟩|⟨_,e1⟩
  ·simp only[Bool.and_eq_true,beq_iff_eq,and_true]at c
   exact c
  ·have ht:Me p n.1=Dc p n.1:=by unfold Me;rw[k1,k2];rfl
   have hn:(Dc p n.1).2.2.1=[]:=by show p.2.2.1.filter _=[];rw[k5];rfl
   rw[Ok _ _ (by rw[hn];simp)]at e1
   simp only[Ag,hn,Qv,H6,Option.elim]at e1
   rcases Ea e1 with⟨c,_⟩|⟨_,e2⟩
   ·simp at c
   ·rcases Ea e2 with⟨c,_⟩|⟨_,e3⟩
    ·simp at c
    ·obtain⟨x,_,e4⟩:=Tr e3
     have e5:=En e4
     simp at e5
 ·obtain⟨hp,hp'⟩:=o5 hb
  subst hb
  unfold Cc Tb at e0
  simp only[Ae,Ai,Ac,Aj]at e0
  rw[J2 p zq0,Ch,Kf,Hk,Gb p h,Oj p n h]at e0
  simp only[Ag,hp,Bool.not_true,Am]at e0
  rcases Ea e0 with⟨_,e1⟩|⟨c1,e1⟩
  ·simp at e1
  rcases Ea e1 with⟨_,e2⟩|⟨c2,e2⟩
  ·simp at e2
  rcases Ea e2 with⟨_,e3⟩|⟨c3,e3⟩
  ·simp at e3
  rcases Ea e3 with⟨_,e4⟩|⟨c4,e4⟩
  ·simp at e4
  have c1':inR n.1 0 1000000=true:=by simpa using c1
  have ht:Me p n.1=Dc p n.1:=by unfold Me;rw[hp,c1'];rfl
  have htn:=Aky p n.1
  have htl:(Dc p n.1).2.2.1.length≤As (Dc p n.1):=by simp only[As];omega
  rw[Ok _ _ zq0]at e4
  simp only[Ag,Qv]at e4
  rcases Ea e4 with⟨_,e5⟩|⟨c5,e5⟩
  ·simp at e5
  rcases Ea e5 with⟨_,e6⟩|⟨c6,e6⟩
  ·simp at e6
  obtain⟨x,e7,e8⟩:=Tr e6
  have e9:=En e8
  have hd:d.1.length=12:=by
   have:((d.1.length:Int)==12)=true:=by simpa using c3
   have:=eq_of_beq this;omega
  rw[Cu _ zq0]at e7
  simp only[Option.some.injEq]at e7
  subst e7
  simp only[Option.some.injEq,Prod.mk.injEq,and_true]at e9
  have hf:H6 (fun _ x=>atA a.1 a.2.1 x) (Dc p n.1).2.2.1 0=none:=by
   cases hf:H6 (fun _ x=>atA a.1 a.2.1 x) (Dc p n.1).2.2.1 0 with
   |none=>rfl
   |some k=>rw[hf]at c5;simp only[Option.elim]at c5;have:=of_decide_eq_false c5;omega
  refine⟨by simpa using c2,hp',by rw[←e9];rfl,by rw[←e9];rfl,?_,(Dc p n.1).2.2.1,IntKind.i64.wrap (n.1+6),by rw[←e9],fun x hx=>?_⟩
  ·intro ⟨q1,q2⟩
   rw[q1,q2]at c4
   simp at c4
  ·obtain⟨j,hj⟩:=List.getElem?_of_mem hx
   exact To.1 hf j x hj
theorem A1h {p p':Bb} {n:YI} {a:B7} {d:YBs} {b:Bool} (h:As p≤4294967296) (e:Kc p n a d=some (p',(b,()))):(b=false→p'=p)∧(b=true→Cq p'=true∧p'.1=a.1∧p'.2.1=a.2.1∧p.2.2.1.length>0)∧As p'≤As p+50:=by
 have hl0:p.2.2.1.length≤As p:=by simp only[As];omega
 obtain⟨q',b',o1,_,o3,o4,o5⟩:=Ail p n a d h
 have e0:=e
 rw[o1]at e
 simp only[Option.some.injEq,Prod.mk.injEq,and_true]at e
 obtain⟨rfl,rfl⟩:=e
 refine⟨o3,fun hb=>?_,o4⟩
 obtain⟨hp,hp'⟩:=o5 hb
 subst hb
 unfold Kc Ut at e0
 simp only[Ae,Ai,Ac,Aj]at e0
 rw[J2 p zq0,Ch,Gb p h,Ok p a zq0]at e0
 simp only[Ag,hp,Bool.not_true,Am]at e0
 rcases Ea e0 with⟨_,e1⟩|⟨c1,e1⟩
 ·simp at e1
 rcases Ea e1 with⟨_,e2⟩|⟨c2,e2⟩
 ·simp at e2
 obtain⟨x,e3,e4⟩:=Tr e2
 obtain⟨y,_,e5⟩:=Tr e4
 rcases Ea e5 with⟨_,e6⟩|⟨c3,e6⟩
 ·simp at e6
 obtain⟨z,_,e7⟩:=Tr e6
 rcases Ea e7 with⟨_,e8⟩|⟨c4,e8⟩
 ·simp at e8
 have e9:=En (En (En (En (En (En (En (En e8)))))))
 simp only[Option.some.injEq,Prod.mk.injEq,and_true]at e9
 refine⟨hp',by rw[←e9],by rw[←e9],?_⟩
 cases hl:p.2.2.1 with
 |nil=>rw[hl]at e3;simp[idx]at e3
 |cons _ _=>simp
theorem A5f {c c':Al} {f:Au} {z k:Int} {p:List YB} (h:Av c+p.length≤67108864) (e:Bm c (k,()) (p,())=some (c',f,(z,()))) (hz:z≠0) (ho:Bo c=true) (hk:5≤k∧k≤8) (hb:G7 k (p.length:Int)=true):c.2.2.2.2.1=281474976710656:=by
 have hc:=h
 simp only[Av]at hc
 obtain⟨f1,f2,f3,_,_⟩:=Eh ho
 have f6:=Dh f3
 have hs: ∀q:Int,0≤q∧q≤281474976710655→(Es c.2.2.2.1 c.1 c.2.1 c.2.2.1 q k p).2.1=true:=fun q hq=>by
  rw[Ar4]
  unfold Is E0
  rw[hb,Bl.2 (show 4≤k∧k≤8 by omega),Bl.2 (show 0≤c.1∧c.1≤1 by omega),Bl.2 (show 0≤c.2.2.1∧c.2.2.1≤4294967295 from f6.1),Bl.2 hq,f2,show c.2.2.2.1.length=32 from f6.2.1]
  rfl
 unfold Bm Qd at e
 simp only[Ae,Ai,Ac]at e
 rw[Ki c zq0,Ma c zq6 zq7]at e
 simp only[Ag,ho,Bool.not_true,Am]at e
 obtain⟨q,e1,e2⟩:=Tr e
 unfold Uw Uv at e1
 simp only[Ae,Ai,Ac]at e1
 rw[Ah7 _ zq2]at e1
 rw[show Dt (c.2.2.1,c.2.2.2.1,c.2.2.2.2.1,c.2.2.2.2.2.1,c.2.2.2.2.2.2.1,())=true from f3]at e1
 obtain⟨w,_,e3⟩:=Tr e1
 simp only[Ag,Bool.not_true,Am]at e3
 rw[Aoj _ _ _ _ _ _ _ zq0 zq0]at e3
 simp only[Ag,hs 0 zq4,Bool.not_true,Am,show(k==4)=false by simp;omega]at e3
 rcases Ea e3 with⟨c1,_⟩|⟨_,e4⟩
 ·exact eq_of_beq c1
 ·rw[Aoj _ _ _ _ _ _ _ zq0 zq0]at e4
  simp only[Ag,Option.some.injEq]at e4
  subst e4
  simp only[Option.some.injEq,Prod.mk.injEq,and_true]at e2
  exact absurd e2.2.2.symm hz
end
end Go.Proofs.YtmhhajdeafijmaaGreat
