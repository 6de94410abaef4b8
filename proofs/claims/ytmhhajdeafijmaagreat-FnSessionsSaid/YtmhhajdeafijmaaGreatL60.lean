/-
  That the program and the reference answer alike, in plain terms, and that the laws answer true.
-/
import Derived.Test.YtmhhajdeafijmaaGreatL59
namespace Go.Proofs.YtmhhajdeafijmaaGreat
open Go.RowKit
set_option linter.unusedVariables false
set_option linter.unusedSimpArgs false
set_option maxRecDepth 100000
set_option maxHeartbeats 8000000
noncomputable section
theorem Ee {α:Type} {c:Bool} {x y:Option α} {r:α} (h:br c x y=some r):(c=true∧x=some r)∨(c=false∧y=some r):=by
 cases c with
 |true=>exact .inl ⟨rfl,h⟩
 |false=>exact .inr ⟨rfl,h⟩
theorem Er {α:Type} {c:Bool} {x:Option α} {r:α} (h:chk c x=some r):x=some r:=by
 cases c with
 |true=>exact h
 |false=>cases h
theorem Ug {α β:Type} {x:Option α} {f:α→Option β} {r:β} (h:ob x f=some r): ∃a,x=some a∧f a=some r:=by
 cases x with
 |none=>cases h
 |some a=>exact⟨a,rfl,h⟩
theorem A5x {p p':A9} {n:YI} {a:Bu} {d:YBs} {b:Bool} (h:Au p≤4294967296) (e:Cd p n a d=some (p',(b,()))):
  (b=false→p'=p∧(Ct p=true→inR n.1 0 1000000=true→Du a=true→d.1.length=12→p.2.2.1=[]→a.1=p.1∧a.2.1=p.2.1))∧
  (b=true→Du a=true∧Ct p'=true∧p'.1=p.1∧p'.2.1=p.2.1∧ ¬(a.1=p.1∧a.2.1=p.2.1)∧ ∃l u,p'.2.2.1=l++[(a.1,a.2.1,d.1,u,())]∧ ∀x∈l,atA a.1 a.2.1 x=false):=by
 have hl0:p.2.2.1.length≤Au p:=by simp only[Au];omega
 obtain⟨q',b',o1,_,o3,_,o5⟩:=F8 p n a d h
 have e0:=e
 rw[o1]at e
 simp only[Option.some.injEq,Prod.mk.injEq,and_true]at e
 obtain⟨rfl,rfl⟩:=e
 refine⟨fun hb=>⟨o3 hb,fun k1 k2 k3 k4 k5=>?_⟩,fun hb=>?_⟩
 ·subst hb
  unfold Cd T0 at e0
  simp only[Ae,Ai,Ac,Ak]at e0
  rw[Kc p zq0,Cj,Kq,Hp,Ge p h,O8 p n h]at e0
  simp only[Ag,k1,k2,k3,show((d.1.length:Int)==12)=true by simp[k4],Bool.not_true,An]at e0
  rcases Ee e0 with⟨c,_⟩|⟨_,e1⟩
  ·simp only[Bool.and_eq_true,beq_iff_eq,and_true]at c
   exact c
  ·have ht:Mt p n.1=De p n.1:=by unfold Mt;rw[k1,k2];rfl
   have hn:(De p n.1).2.2.1=[]:=by show p.2.2.1.filter _=[];rw[k5];rfl
   rw[O9 _ _ (by rw[hn];simp)]at e1
   simp only[Ag,hn,Rg,Id,Option.elim]at e1
   rcases Ee e1 with⟨c,_⟩|⟨_,e2⟩
   ·simp at c
   ·rcases Ee e2 with⟨c,_⟩|⟨_,e3⟩
    ·simp at c
    ·obtain⟨x,_,e4⟩:=Ug e3
     have e5:=Er e4
     simp at e5
 ·obtain⟨hp,hp'⟩:=o5 hb
  subst hb
  unfold Cd T0 at e0
  simp only[Ae,Ai,Ac,Ak]at e0
  rw[Kc p zq0,Cj,Kq,Hp,Ge p h,O8 p n h]at e0
  simp only[Ag,hp,Bool.not_true,An]at e0
  rcases Ee e0 with⟨_,e1⟩|⟨c1,e1⟩
  ·simp at e1
  rcases Ee e1 with⟨_,e2⟩|⟨c2,e2⟩
  ·simp at e2
  rcases Ee e2 with⟨_,e3⟩|⟨c3,e3⟩
  ·simp at e3
  rcases Ee e3 with⟨_,e4⟩|⟨c4,e4⟩
  ·simp at e4
  have c1':inR n.1 0 1000000=true:=by simpa using c1
  have ht:Mt p n.1=De p n.1:=by unfold Mt;rw[hp,c1'];rfl
  have htn:=Ami p n.1
  have htl:(De p n.1).2.2.1.length≤Au (De p n.1):=by simp only[Au];omega
  rw[O9 _ _ zq0]at e4
  simp only[Ag,Rg]at e4
  rcases Ee e4 with⟨_,e5⟩|⟨c5,e5⟩
  ·simp at e5
  rcases Ee e5 with⟨_,e6⟩|⟨c6,e6⟩
  ·simp at e6
  obtain⟨x,e7,e8⟩:=Ug e6
  have e9:=Er e8
  have hd:d.1.length=12:=by
   have:((d.1.length:Int)==12)=true:=by simpa using c3
   have:=eq_of_beq this;omega
  rw[Cw _ zq0]at e7
  simp only[Option.some.injEq]at e7
  subst e7
  simp only[Option.some.injEq,Prod.mk.injEq,and_true]at e9
  have hf:Id (fun _ x=>atA a.1 a.2.1 x) (De p n.1).2.2.1 0=none:=by
   cases hf:Id (fun _ x=>atA a.1 a.2.1 x) (De p n.1).2.2.1 0 with
   |none=>rfl
   |some k=>rw[hf]at c5;simp only[Option.elim]at c5;have:=of_decide_eq_false c5;omega
  refine⟨by simpa using c2,hp',by rw[←e9];rfl,by rw[←e9];rfl,?_,(De p n.1).2.2.1,IntKind.i64.wrap (n.1+6),by rw[←e9],fun x hx=>?_⟩
  ·intro ⟨q1,q2⟩
   rw[q1,q2]at c4
   simp at c4
  ·obtain⟨j,hj⟩:=List.getElem?_of_mem hx
   exact Ud.1 hf j x hj
theorem A3n {p p':A9} {n:YI} {a:Bu} {d:YBs} {b:Bool} (h:Au p≤4294967296) (e:Ko p n a d=some (p',(b,()))):(b=false→p'=p)∧(b=true→Ct p'=true∧p'.1=a.1∧p'.2.1=a.2.1∧p.2.2.1.length>0)∧Au p'≤Au p+50:=by
 have hl0:p.2.2.1.length≤Au p:=by simp only[Au];omega
 obtain⟨q',b',o1,_,o3,o4,o5⟩:=Ajw p n a d h
 have e0:=e
 rw[o1]at e
 simp only[Option.some.injEq,Prod.mk.injEq,and_true]at e
 obtain⟨rfl,rfl⟩:=e
 refine⟨o3,fun hb=>?_,o4⟩
 obtain⟨hp,hp'⟩:=o5 hb
 subst hb
 unfold Ko Ve at e0
 simp only[Ae,Ai,Ac,Ak]at e0
 rw[Kc p zq0,Cj,Ge p h,O9 p a zq0]at e0
 simp only[Ag,hp,Bool.not_true,An]at e0
 rcases Ee e0 with⟨_,e1⟩|⟨c1,e1⟩
 ·simp at e1
 rcases Ee e1 with⟨_,e2⟩|⟨c2,e2⟩
 ·simp at e2
 obtain⟨x,e3,e4⟩:=Ug e2
 obtain⟨y,_,e5⟩:=Ug e4
 rcases Ee e5 with⟨_,e6⟩|⟨c3,e6⟩
 ·simp at e6
 obtain⟨z,_,e7⟩:=Ug e6
 rcases Ee e7 with⟨_,e8⟩|⟨c4,e8⟩
 ·simp at e8
 have e9:=Er (Er (Er (Er (Er (Er (Er (Er e8)))))))
 simp only[Option.some.injEq,Prod.mk.injEq,and_true]at e9
 refine⟨hp',by rw[←e9],by rw[←e9],?_⟩
 cases hl:p.2.2.1 with
 |nil=>rw[hl]at e3;simp[idx]at e3
 |cons _ _=>simp
theorem A7l {c c':Aj} {f:Aq} {z k:Int} {p:List YB} (h:Av c+p.length≤67108864) (e:Bq c (k,()) (p,())=some (c',f,(z,()))) (hz:z≠0) (ho:Bt c=true) (hk:5≤k∧k≤8) (hb:Hc k (p.length:Int)=true):c.2.2.2.2.1=281474976710656:=by
 have hc:=h
 simp only[Av]at hc
 obtain⟨f1,f2,f3,_,_⟩:=El ho
 have f6:=Dl f3
 have hs: ∀q:Int,0≤q∧q≤281474976710655→(Ev c.2.2.2.1 c.1 c.2.1 c.2.2.1 q k p).2.1=true:=fun q hq=>by
  rw[At3]
  unfold I1 E7
  rw[hb,Bp.2 (show 4≤k∧k≤8 by omega),Bp.2 (show 0≤c.1∧c.1≤1 by omega),Bp.2 (show 0≤c.2.2.1∧c.2.2.1≤4294967295 from f6.1),Bp.2 hq,f2,show c.2.2.2.1.length=32 from f6.2.1]
  rfl
 unfold Bq Qs at e
 simp only[Ae,Ai,Ac]at e
 rw[Kt c zq0,Mp c zq6 zq7]at e
 simp only[Ag,ho,Bool.not_true,An]at e
 obtain⟨q,e1,e2⟩:=Ug e
 unfold Vn Vf at e1
 simp only[Ae,Ai,Ac]at e1
 rw[Aji _ zq2]at e1
 rw[show Dy (c.2.2.1,c.2.2.2.1,c.2.2.2.2.1,c.2.2.2.2.2.1,c.2.2.2.2.2.2.1,())=true from f3]at e1
 obtain⟨w,_,e3⟩:=Ug e1
 simp only[Ag,Bool.not_true,An]at e3
 rw[Aqg _ _ _ _ _ _ _ zq0 zq0]at e3
 simp only[Ag,hs 0 zq4,Bool.not_true,An,show(k==4)=false by simp;omega]at e3
 rcases Ee e3 with⟨c1,_⟩|⟨_,e4⟩
 ·exact eq_of_beq c1
 ·rw[Aqg _ _ _ _ _ _ _ zq0 zq0]at e4
  simp only[Ag,Option.some.injEq]at e4
  subst e4
  simp only[Option.some.injEq,Prod.mk.injEq,and_true]at e2
  exact absurd e2.2.2.symm hz
end
end Go.Proofs.YtmhhajdeafijmaaGreat
