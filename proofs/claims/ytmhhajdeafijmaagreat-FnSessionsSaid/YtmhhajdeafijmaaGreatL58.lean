/-
  That the program and the reference answer alike, in plain terms, and that the laws answer true.
-/
import Derived.Test.YtmhhajdeafijmaaGreatL57
namespace Go.Proofs.YtmhhajdeafijmaaGreat
open Go.RowKit
set_option linter.unusedVariables false
set_option linter.unusedSimpArgs false
set_option maxRecDepth 100000
set_option maxHeartbeats 8000000
noncomputable section
theorem A5w (l:(List YI)×Unit) (hl:l.1.length≤1000):Tot (fun r=>Fz r=true) (T6 l):=by
 unfold T6 Zj
 simp only[Ae,Ai,Ac,Ak]
 rw[Xp,Xq]
 simp only[Ag]
 refine Ad (Q:=fun o:Int×(List YI)×Int×(List YI)×Unit=>Fz (o.2.2.1,o.2.2.2.1,())=true) ?_ (fun o ho=>Ah ho)
 refine Nn (fun i d=>d.1=l.1∧d.2.1=(i:Int)∧d.2.2.2.2.2.1.length=32∧Fz (d.2.2.2.2.1,d.2.2.2.2.2.1,())=true) _ l.1.length ?_ ⟨rfl,rfl,by simp[Ua],Ajs⟩
 rintro i ⟨m,k,a1,a2,a3,a4,⟨⟩⟩ hi ⟨g1,g2,g3,g4⟩
 dsimp only at g1 g2 g3 g4
 subst g1 g2
 unfold Nu
 simp only[Ae,Ai,Ac,Ak]
 refine Ao (fun h=>?_) (fun h=>Ah (.inr ⟨_,rfl,g4⟩))
 have h:=of_decide_eq_true h
 refine Ad (Pq (P:=fun _=>True) zq0 h (fun _ _=>trivial)) (fun e _=>?_)
 have hn:=Abx (a3,a4,()) e.1
 simp only[Ed]at hn
 have e0:IntKind.i64.wrap ((i:Int)+1)=((i+1:Nat):Int):=by rw[w64 zq0];omega
 rw[Any (a3,a4,()) e zq2]
 cases hm:Gl (a3,a4,()) e.1 with
 |false=>exact Ah (.inl ⟨_,rfl,by omega,rfl,e0,g3,g4⟩)
 |true=>exact Ah (.inl ⟨_,rfl,by omega,rfl,e0,by show(Hd (a3,a4,()) e.1).2.1.length=32;omega,At5 hm⟩)
theorem A3l {b:List YB} {a0:Az} (hc:B9 b a0):Tot (fun r=>Fz r.1=true∧B9 b r.2) (Q0 a0):=by
 unfold Q0 Va
 simp only[Ae,Ai,Ac,Ak]
 refine Ad (Aqn _ hc zq4) (fun r1 ⟨h1,h1c⟩=>?_)
 exact Ad (A5w _ h1) (fun r2 h2=>Ah ⟨h2,Ab hc h1c⟩)
theorem A1m {n:Int} {k:List YB} {s t:Int} {w:List YI} (h1:0≤n∧n≤4294967295) (h2:k.length=32) (h3:0≤s∧s≤281474976710656) (h4:Fz (t,w,())=true):Dy (n,k,s,t,w,())=true:=by
 unfold Dy
 rw[h4,Bp.2 h1,Bp.2 h3]
 simp[h2]
theorem A3m {sn:List YB} {e:YEp} (h1:sn.length=12) (h2:Dy e=true):Bt (1,sn,e.1,e.2.1,e.2.2.1,e.2.2.2.1,e.2.2.2.2.1,0,[],0,0,[],false,0,[],())=true:=by
 have e1:((sn.length:Int)==12)=true:=by simp[h1]
 have e2:Dy (Ia ((1,sn,e.1,e.2.1,e.2.2.1,e.2.2.2.1,e.2.2.2.2.1,0,[],0,0,[],false,0,[],()):Aj))=true:=h2
 have e3:Ib ((1,sn,e.1,e.2.1,e.2.2.1,e.2.2.2.1,e.2.2.2.2.1,0,[],0,0,[],false,0,[],()):Aj)=true:=rfl
 unfold Bt
 rw[e2,e3]
 simp[h1,I0]
theorem A7k {sn:List YB} {e o:YEp} {u:Int} (h1:sn.length=12) (h2:Dy e=true) (h3:Dy o=true) (h4:o.1=IntKind.i64.wrap (e.1-1)) (h5:(0≤u∧u≤1000005)∨u= -1):Bt (1,sn,e.1,e.2.1,e.2.2.1,e.2.2.2.1,e.2.2.2.2.1,o.1,o.2.1,o.2.2.1,o.2.2.2.1,o.2.2.2.2.1,true,u,[],())=true:=by
 have e1:((sn.length:Int)==12)=true:=by simp[h1]
 have e2:Dy (Ia ((1,sn,e.1,e.2.1,e.2.2.1,e.2.2.2.1,e.2.2.2.2.1,o.1,o.2.1,o.2.2.1,o.2.2.2.1,o.2.2.2.2.1,true,u,[],()):Aj))=true:=h2
 have e3:Ib ((1,sn,e.1,e.2.1,e.2.2.1,e.2.2.2.1,e.2.2.2.2.1,o.1,o.2.1,o.2.2.1,o.2.2.2.1,o.2.2.2.2.1,true,u,[],()):Aj)=true:=by
  unfold Ib
  have q1:Dy (Ov ((1,sn,e.1,e.2.1,e.2.2.1,e.2.2.2.1,e.2.2.2.2.1,o.1,o.2.1,o.2.2.1,o.2.2.2.1,o.2.2.2.2.1,true,u,[],()):Aj))=true:=h3
  rw[q1]
  show(true && (!(o.1 != IntKind.i64.wrap (e.1-1)) && (inR u 0 1000005 || ((u== -1) && true))))=true
  rw[h4]
  rcases h5 with h5|h5
  ·rw[Bp.2 h5];simp
  ·rw[h5];simp
 unfold Bt
 rw[e2,e3]
 simp[h1,I0]
theorem Axx {b:List YB} {a0:Az} (hc:B9 b a0):Tot (fun r=>(Bt r.1=true∧r.1.1=1)∧B9 b r.2) (N6 a0 ((1:Int),())):=by
 unfold N6 Tg
 simp only[Ae,Ai,Ac,Ak,show((1:Int)==(0:Int))=false from rfl,An]
 refine Ad (Cr _ hc zq4) (fun r1 ⟨⟨h1,_⟩,h1c⟩=>?_)
 refine Ad (Cr _ (Ab hc h1c) zq4) (fun r2 ⟨⟨h2,_⟩,h2c⟩=>?_)
 have h1:r1.1.1.length=12:=h1
 have h2:r2.1.1.length=32:=h2
 rw[show Ho ((1:Int),()) r1.1 r2.1=some (Af6 1 r1.1.1 r2.1.1)from(Amk 1 r1.1.1 r2.1.1 (.inr rfl) h1 h2).2,Ag]
 refine Ad (B7 _ 0 281474976710656 (Ab hc h2c) zq4 zq4) (fun r4 ⟨h4,h4c⟩=>?_)
 have hd:(E8 r2.1.1 Le).length=32:=Z3 zq4 zq0
 have fin: ∀(c:Az) (t:Int) (w:List YI),B9 b c→c.1=a0.1→Fz (t,w,())=true→
   (Tot (fun r:Aj×Az=>(Bt r.1=true∧r.1.1=1)∧B9 b r.2) (ob (Ap c ((2:Int),())) fun r7=>br r7.1.1 (ob (B6 (a0.1,r7.2.2.1,r7.2.2.2.1,()) ([((1:Int),()),((1:Int),()),((2:Int),()),((4294967295:Int),())],())) fun r8=>
    ob (Cs (r2.1.1,()) ((Cy [114,101,107,101,121]),())) fun r9=>ob (Dz r8.1 r9) fun r10=>ob (B6 (a0.1,r8.2.2.1,r8.2.2.2.1,()) ([((-1:Int),()),((0:Int),()),((5:Int),()),((7:Int),()),((1000005:Int),())],())) fun r11=>
    some ((1,r1.1.1,r10.1,r10.2.1,r10.2.2.1,r10.2.2.2.1,r10.2.2.2.2.1,(IntKind.i64.wrap (r10.1-(1:Int))),r2.1.1,r4.1.1,t,w,true,r11.1.1,[],()),(a0.1,r11.2.2.1,r11.2.2.2.1,())))
    (some ((1,r1.1.1,0,r2.1.1,r4.1.1,t,w,0,[],0,0,[],false,0,[],()),(a0.1,r7.2.2.1,r7.2.2.2.1,()))))):=fun c t w hcc e hw=>by
  refine Ad (As _ hcc zq4) (fun r7 h7c=>?_)
  refine Ao (fun _=>?_) (fun _=>Ah ⟨⟨A3m (e:=(0,r2.1.1,r4.1.1,t,w,())) h1 (A1m zq4 h2 h4 hw),rfl⟩,Ab hc h7c⟩)
  refine Ad (B7 _ 1 4294967295 (Ab hc h7c) zq4 zq4) (fun r8 ⟨h8,h8c⟩=>?_)
  rw[show Cs (r2.1.1,()) (Cy [114,101,107,101,121],())=_ from Z1 r2.1.1,Ag]
  rw[show Dz r8.1 (E8 r2.1.1 Le,())=some (Xt r8.1.1 (E8 r2.1.1 Le))from(Aju r8.1.1 _ zq0 hd).2,Ag]
  refine Ad (B7 _ (-1) 1000005 (Ab hc h8c) zq4 zq4) (fun r11 ⟨h11,h11c⟩=>?_)
  refine Ah ⟨⟨A7k (e:=Xt r8.1.1 (E8 r2.1.1 Le)) (o:=(IntKind.i64.wrap (r8.1.1-1),r2.1.1,r4.1.1,t,w,())) h1 (Ajt zq0 hd) (A1m ?_ h2 h4 hw) rfl zq0,rfl⟩,Ab hc h11c⟩
  rw[w64 zq0];omega
 refine Ad (As _ (Ab hc h4c) zq4) (fun r5 h5c=>?_)
 refine Ao (fun _=>?_) (fun _=>?_)
 ·exact Ad (A3l (Ab hc h5c)) (fun r6 ⟨h6,h6c⟩=>fin _ _ _ (Ab hc h6c) rfl h6)
 ·exact fin _ _ _ (Ab hc h5c) rfl Ajs
theorem A1n (n:YI):Tot (fun r=>Du r=true) (G4 n):=by
 unfold G4 We
 simp only[Ae,Ai,Ac,Ak]
 rw[Cz,Ag]
 dsimp only
 cases h:inR n.1 0 255 with
 |false=>exact Ah rfl
 |true=>
  have:=Bp.1 h
  refine Ah ?_
  unfold Du
  rw[w64 (n:=167772160+n.1) zq0,w64 (n:=7000+n.1) zq0]
  simp only[Bool.and_eq_true,Bp]
  omega
theorem Amo {b:List YB} {a0:Az} (hc:B9 b a0):Tot (fun r=>Ct r.1=true∧B9 b r.2) (Lo a0):=by
 unfold Lo Ti
 simp only[Ae,Ai,Ac,Ak]
 refine Ad (Bg _ hc zq4) (fun r1 ⟨_,h1c⟩=>?_)
 refine Ad (A1n _) (fun r2 h2=>?_)
 rw[show Mi r2=some (r2.1,r2.2.1,[],())from rfl,Ag]
 refine Ad (Bg _ (Ab hc h1c) zq4) (fun r4 ⟨⟨h4,h4b⟩,h4c⟩=>?_)
 refine Ad (Bg _ (Ab hc h4c) zq4) (fun r5 ⟨⟨h5,h5b⟩,h5c⟩=>?_)
 dsimp only at h4b h5b
 refine Ad (Q:=fun o:(List YB)×Int×Int×Int×Int×(List Al)×Int×Int×(List Al)×Unit=>Ct (o.2.2.2.2.2.2.1,o.2.2.2.2.2.2.2.1,o.2.2.2.2.2.2.2.2.1,())=true∧B9 b (o.1,o.2.1,o.2.2.1,())) ?_ (fun o ho=>Ah ho)
 refine Nn (fun j d=>d.2.1=r5.1.1-(j:Int)∧(Ct (d.2.2.2.2.2.2.2.2.1,d.2.2.2.2.2.2.2.2.2.1,d.2.2.2.2.2.2.2.2.2.2.1,())=true∧Au (d.2.2.2.2.2.2.2.2.1,d.2.2.2.2.2.2.2.2.2.1,d.2.2.2.2.2.2.2.2.2.2.1,())≤50*j)∧B9 b (d.2.2.1,d.2.2.2.1,d.2.2.2.2.1,())) _ 5 ?_ ⟨by simp,⟨Gf.2 ⟨h2,by simp,(fun x hx=>by cases hx),List.Pairwise.nil⟩,by simp[Au,Dg]⟩,Ab hc h5c⟩
 rintro j ⟨m,i,c1,c2,c3,x1,x2,x3,p1,p2,p3,⟨⟩⟩ hj ⟨g1,⟨g2,g2n⟩,g3⟩
 dsimp only at g1 g2 g2n g3
 unfold Om
 simp only[Ae,Ai,Ac,Ak]
 refine Ao (fun h=>?_) (fun h=>Ah (.inr ⟨_,rfl,g2,g3⟩))
 have h:=of_decide_eq_true h
 refine Ad (Bg _ g3 zq4) (fun r7 ⟨_,h7c⟩=>?_)
 refine Ad (Sz _) (fun r8 _=>?_)
 refine Ad (Cr _ (Ab g3 h7c) zq4) (fun r9 ⟨_,h9c⟩=>?_)
 obtain⟨p',ok,_,o2,o3,o4,o5⟩:=F8 (p1,p2,p3,()) (m,()) r8 r9.1 zq0
 have hp':Ct p'=true:=by
  cases ok with
  |false=>rw[o3 rfl];exact g2
  |true=>exact(o5 rfl).2
 rw[o2,Ag]
 refine Ad (Bg _ (Ab g3 h9c) zq4) (fun r11 ⟨_,h11c⟩=>?_)
 refine Ah (.inl ⟨_,rfl,by omega,?_,⟨hp',?_⟩,by have:=Ab g3 h11c;exact this⟩)
 ·dsimp only;rw[w64 zq0];omega
 ·have:Au (p'.1,p'.2.1,p'.2.2.1,())≤50*j+50:=Nat.le_trans o4 zq0
  dsimp only;omega
end
end Go.Proofs.YtmhhajdeafijmaaGreat
