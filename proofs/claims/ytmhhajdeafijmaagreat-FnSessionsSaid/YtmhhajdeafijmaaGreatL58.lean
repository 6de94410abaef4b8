/-
  That the program and the reference answer alike, in plain terms, and that the laws answer true.
-/
import Derived.Test.YtmhhajdeafijmaaGreatL57
namespace Go.Proofs.YtmhhajdeafijmaaGreat
open Go.RowKit
set_option linter.unusedVariables false
set_option linter.unusedSimpArgs false
set_option maxRecDepth 100000
set_option maxHeartbeats 8000000
noncomputable section
theorem A3q (l:(List YI)×Unit) (hl:l.1.length≤1000):Tot (fun r=>Fw r=true) (S9 l):=by
 unfold S9 Xi
 simp only[Ae,Ai,Ac,Aj]
 rw[W2,W3]
 simp only[Ag]
 refine Ad (Q:=fun o:Int×(List YI)×Int×(List YI)×Unit=>Fw (o.2.2.1,o.2.2.2.1,())=true) ?_ (fun o ho=>Ah ho)
 refine M5 (fun i d=>d.1=l.1∧d.2.1=(i:Int)∧d.2.2.2.2.2.1.length=32∧Fw (d.2.2.2.2.1,d.2.2.2.2.2.1,())=true) _ l.1.length ?_ ⟨rfl,rfl,by simp[Tl],Aih⟩
 rintro i ⟨m,k,a1,a2,a3,a4,⟨⟩⟩ hi ⟨g1,g2,g3,g4⟩
 dsimp only at g1 g2 g3 g4
 subst g1 g2
 unfold Ng
 simp only[Ae,Ai,Ac,Aj]
 refine An (fun h=>?_) (fun h=>Ah (.inr ⟨_,rfl,g4⟩))
 have h:=of_decide_eq_true h
 refine Ad (O7 (P:=fun _=>True) zq0 h (fun _ _=>trivial)) (fun e _=>?_)
 have hn:=Aa7 (a3,a4,()) e.1
 simp only[D9]at hn
 have e0:IntKind.i64.wrap ((i:Int)+1)=((i+1:Nat):Int):=by rw[w64 zq0];omega
 rw[Al8 (a3,a4,()) e zq2]
 cases hm:Gi (a3,a4,()) e.1 with
 |false=>exact Ah (.inl ⟨_,rfl,by omega,rfl,e0,g3,g4⟩)
 |true=>exact Ah (.inl ⟨_,rfl,by omega,rfl,e0,by show(G8 (a3,a4,()) e.1).2.1.length=32;omega,Ar6 hm⟩)
theorem A1f {b:List YB} {a0:Az} (hc:B6 b a0):Tot (fun r=>Fw r.1=true∧B6 b r.2) (Pr a0):=by
 unfold Pr Uo
 simp only[Ae,Ai,Ac,Aj]
 refine Ad (Aoq _ hc zq4) (fun r1 ⟨h1,h1c⟩=>?_)
 exact Ad (A3q _ h1) (fun r2 h2=>Ah ⟨h2,Ab hc h1c⟩)
theorem Azh {n:Int} {k:List YB} {s t:Int} {w:List YI} (h1:0≤n∧n≤4294967295) (h2:k.length=32) (h3:0≤s∧s≤281474976710656) (h4:Fw (t,w,())=true):Dt (n,k,s,t,w,())=true:=by
 unfold Dt
 rw[h4,Bl.2 h1,Bl.2 h3]
 simp[h2]
theorem A1g {sn:List YB} {e:YEp} (h1:sn.length=12) (h2:Dt e=true):Bo (1,sn,e.1,e.2.1,e.2.2.1,e.2.2.2.1,e.2.2.2.2.1,0,[],0,0,[],false,0,[],())=true:=by
 have e1:((sn.length:Int)==12)=true:=by simp[h1]
 have e2:Dt (H3 ((1,sn,e.1,e.2.1,e.2.2.1,e.2.2.2.1,e.2.2.2.2.1,0,[],0,0,[],false,0,[],()):Al))=true:=h2
 have e3:H4 ((1,sn,e.1,e.2.1,e.2.2.1,e.2.2.2.1,e.2.2.2.2.1,0,[],0,0,[],false,0,[],()):Al)=true:=rfl
 unfold Bo
 rw[e2,e3]
 simp[h1,Ir]
theorem A5e {sn:List YB} {e o:YEp} {u:Int} (h1:sn.length=12) (h2:Dt e=true) (h3:Dt o=true) (h4:o.1=IntKind.i64.wrap (e.1-1)) (h5:(0≤u∧u≤1000005)∨u= -1):Bo (1,sn,e.1,e.2.1,e.2.2.1,e.2.2.2.1,e.2.2.2.2.1,o.1,o.2.1,o.2.2.1,o.2.2.2.1,o.2.2.2.2.1,true,u,[],())=true:=by
 have e1:((sn.length:Int)==12)=true:=by simp[h1]
 have e2:Dt (H3 ((1,sn,e.1,e.2.1,e.2.2.1,e.2.2.2.1,e.2.2.2.2.1,o.1,o.2.1,o.2.2.1,o.2.2.2.1,o.2.2.2.2.1,true,u,[],()):Al))=true:=h2
 have e3:H4 ((1,sn,e.1,e.2.1,e.2.2.1,e.2.2.2.1,e.2.2.2.2.1,o.1,o.2.1,o.2.2.1,o.2.2.2.1,o.2.2.2.2.1,true,u,[],()):Al)=true:=by
  unfold H4
  have q1:Dt (Ob ((1,sn,e.1,e.2.1,e.2.2.1,e.2.2.2.1,e.2.2.2.2.1,o.1,o.2.1,o.2.2.1,o.2.2.2.1,o.2.2.2.2.1,true,u,[],()):Al))=true:=h3
  rw[q1]
  show(true && (!(o.1 != IntKind.i64.wrap (e.1-1)) && (inR u 0 1000005 || ((u== -1) && true))))=true
  rw[h4]
  rcases h5 with h5|h5
  ·rw[Bl.2 h5];simp
  ·rw[h5];simp
 unfold Bo
 rw[e2,e3]
 simp[h1,Ir]
theorem Avt {b:List YB} {a0:Az} (hc:B6 b a0):Tot (fun r=>(Bo r.1=true∧r.1.1=1)∧B6 b r.2) (Nh a0 ((1:Int),())):=by
 unfold Nh So
 simp only[Ae,Ai,Ac,Aj,show((1:Int)==(0:Int))=false from rfl,Am]
 refine Ad (Cp _ hc zq4) (fun r1 ⟨⟨h1,_⟩,h1c⟩=>?_)
 refine Ad (Cp _ (Ab hc h1c) zq4) (fun r2 ⟨⟨h2,_⟩,h2c⟩=>?_)
 have h1:r1.1.1.length=12:=h1
 have h2:r2.1.1.length=32:=h2
 rw[show Hi ((1:Int),()) r1.1 r2.1=some (Ae6 1 r1.1.1 r2.1.1)from(Ak0 1 r1.1.1 r2.1.1 (.inr rfl) h1 h2).2,Ag]
 refine Ad (B0 _ 0 281474976710656 (Ab hc h2c) zq4 zq4) (fun r4 ⟨h4,h4c⟩=>?_)
 have hd:(E6 r2.1.1 K0).length=32:=Zf zq4 zq0
 have fin: ∀(c:Az) (t:Int) (w:List YI),B6 b c→c.1=a0.1→Fw (t,w,())=true→
   (Tot (fun r:Al×Az=>(Bo r.1=true∧r.1.1=1)∧B6 b r.2) (ob (Ao c ((2:Int),())) fun r7=>br r7.1.1 (ob (Bz (a0.1,r7.2.2.1,r7.2.2.2.1,()) ([((1:Int),()),((1:Int),()),((2:Int),()),((4294967295:Int),())],())) fun r8=>
    ob (Ct (r2.1.1,()) ((C6 [114,101,107,101,121]),())) fun r9=>ob (Ev r8.1 r9) fun r10=>ob (Bz (a0.1,r8.2.2.1,r8.2.2.2.1,()) ([((-1:Int),()),((0:Int),()),((5:Int),()),((7:Int),()),((1000005:Int),())],())) fun r11=>
    some ((1,r1.1.1,r10.1,r10.2.1,r10.2.2.1,r10.2.2.2.1,r10.2.2.2.2.1,(IntKind.i64.wrap (r10.1-(1:Int))),r2.1.1,r4.1.1,t,w,true,r11.1.1,[],()),(a0.1,r11.2.2.1,r11.2.2.2.1,())))
    (some ((1,r1.1.1,0,r2.1.1,r4.1.1,t,w,0,[],0,0,[],false,0,[],()),(a0.1,r7.2.2.1,r7.2.2.2.1,()))))):=fun c t w hcc e hw=>by
  refine Ad (Ar _ hcc zq4) (fun r7 h7c=>?_)
  refine An (fun _=>?_) (fun _=>Ah ⟨⟨A1g (e:=(0,r2.1.1,r4.1.1,t,w,())) h1 (Azh zq4 h2 h4 hw),rfl⟩,Ab hc h7c⟩)
  refine Ad (B0 _ 1 4294967295 (Ab hc h7c) zq4 zq4) (fun r8 ⟨h8,h8c⟩=>?_)
  rw[show Ct (r2.1.1,()) (C6 [114,101,107,101,121],())=_ from Zd r2.1.1,Ag]
  rw[show Ev r8.1 (E6 r2.1.1 K0,())=some (W6 r8.1.1 (E6 r2.1.1 K0))from(Aij r8.1.1 _ zq0 hd).2,Ag]
  refine Ad (B0 _ (-1) 1000005 (Ab hc h8c) zq4 zq4) (fun r11 ⟨h11,h11c⟩=>?_)
  refine Ah ⟨⟨A5e (e:=W6 r8.1.1 (E6 r2.1.1 K0)) (o:=(IntKind.i64.wrap (r8.1.1-1),r2.1.1,r4.1.1,t,w,())) h1 (Aii zq0 hd) (Azh ?_ h2 h4 hw) rfl zq0,rfl⟩,Ab hc h11c⟩
  rw[w64 zq0];omega
 refine Ad (Ar _ (Ab hc h4c) zq4) (fun r5 h5c=>?_)
 refine An (fun _=>?_) (fun _=>?_)
 ·exact Ad (A1f (Ab hc h5c)) (fun r6 ⟨h6,h6c⟩=>fin _ _ _ (Ab hc h6c) rfl h6)
 ·exact fin _ _ _ (Ab hc h5c) rfl Aih
theorem Azi (n:YI):Tot (fun r=>Dp r=true) (Hv n):=by
 unfold Hv Vm
 simp only[Ae,Ai,Ac,Aj]
 rw[Cw,Ag]
 dsimp only
 cases h:inR n.1 0 255 with
 |false=>exact Ah rfl
 |true=>
  have:=Bl.1 h
  refine Ah ?_
  unfold Dp
  rw[w64 (n:=167772160+n.1) zq0,w64 (n:=7000+n.1) zq0]
  simp only[Bool.and_eq_true,Bl]
  omega
theorem Ak4 {b:List YB} {a0:Az} (hc:B6 b a0):Tot (fun r=>Cq r.1=true∧B6 b r.2) (K8 a0):=by
 unfold K8 Ss
 simp only[Ae,Ai,Ac,Aj]
 refine Ad (Bd _ hc zq4) (fun r1 ⟨_,h1c⟩=>?_)
 refine Ad (Azi _) (fun r2 h2=>?_)
 rw[show Lq r2=some (r2.1,r2.2.1,[],())from rfl,Ag]
 refine Ad (Bd _ (Ab hc h1c) zq4) (fun r4 ⟨⟨h4,h4b⟩,h4c⟩=>?_)
 refine Ad (Bd _ (Ab hc h4c) zq4) (fun r5 ⟨⟨h5,h5b⟩,h5c⟩=>?_)
 dsimp only at h4b h5b
 refine Ad (Q:=fun o:(List YB)×Int×Int×Int×Int×(List Ap)×Int×Int×(List Ap)×Unit=>Cq (o.2.2.2.2.2.2.1,o.2.2.2.2.2.2.2.1,o.2.2.2.2.2.2.2.2.1,())=true∧B6 b (o.1,o.2.1,o.2.2.1,())) ?_ (fun o ho=>Ah ho)
 refine M5 (fun j d=>d.2.1=r5.1.1-(j:Int)∧(Cq (d.2.2.2.2.2.2.2.2.1,d.2.2.2.2.2.2.2.2.2.1,d.2.2.2.2.2.2.2.2.2.2.1,())=true∧As (d.2.2.2.2.2.2.2.2.1,d.2.2.2.2.2.2.2.2.2.1,d.2.2.2.2.2.2.2.2.2.2.1,())≤50*j)∧B6 b (d.2.2.1,d.2.2.2.1,d.2.2.2.2.1,())) _ 5 ?_ ⟨by simp,⟨Gc.2 ⟨h2,by simp,(fun x hx=>by cases hx),List.Pairwise.nil⟩,by simp[As,Dd]⟩,Ab hc h5c⟩
 rintro j ⟨m,i,c1,c2,c3,x1,x2,x3,p1,p2,p3,⟨⟩⟩ hj ⟨g1,⟨g2,g2n⟩,g3⟩
 dsimp only at g1 g2 g2n g3
 unfold N5
 simp only[Ae,Ai,Ac,Aj]
 refine An (fun h=>?_) (fun h=>Ah (.inr ⟨_,rfl,g2,g3⟩))
 have h:=of_decide_eq_true h
 refine Ad (Bd _ g3 zq4) (fun r7 ⟨_,h7c⟩=>?_)
 refine Ad (R7 _) (fun r8 _=>?_)
 refine Ad (Cp _ (Ab g3 h7c) zq4) (fun r9 ⟨_,h9c⟩=>?_)
 obtain⟨p',ok,_,o2,o3,o4,o5⟩:=F5 (p1,p2,p3,()) (m,()) r8 r9.1 zq0
 have hp':Cq p'=true:=by
  cases ok with
  |false=>rw[o3 rfl];exact g2
  |true=>exact(o5 rfl).2
 rw[o2,Ag]
 refine Ad (Bd _ (Ab g3 h9c) zq4) (fun r11 ⟨_,h11c⟩=>?_)
 refine Ah (.inl ⟨_,rfl,by omega,?_,⟨hp',?_⟩,by have:=Ab g3 h11c;exact this⟩)
 ·dsimp only;rw[w64 zq0];omega
 ·have:As (p'.1,p'.2.1,p'.2.2.1,())≤50*j+50:=Nat.le_trans o4 zq0
  dsimp only;omega
end
end Go.Proofs.YtmhhajdeafijmaaGreat
