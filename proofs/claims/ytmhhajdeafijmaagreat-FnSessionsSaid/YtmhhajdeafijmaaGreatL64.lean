/-
  That the program and the reference answer alike, in plain terms, and that the laws answer true.
-/
import Derived.Test.YtmhhajdeafijmaaGreatL63
namespace Go.Proofs.YtmhhajdeafijmaaGreat
open Go.RowKit
set_option linter.unusedVariables false
set_option linter.unusedSimpArgs false
set_option maxRecDepth 100000
set_option maxHeartbeats 16000000
noncomputable section
theorem Axz (l:List Bl) (h:Mu l) (hl:l.length≤4294967296):Afm (l,())=some (true,()):=by
 have e:=Cp (B:=Jx) l.length (fun i=>(l,(i:Int),())) (.inr ())
  (fun i hi=>by
   have hx:=List.getElem?_eq_getElem hi
   obtain⟨h1,h2⟩:=h _ (List.getElem_mem hi)
   unfold Jx
   simp only[Ae,Ai,Ac,Et hi,A0,Cb hx,Ag,T7,Kq,h1,h2,Bool.not_true,An]
   rw[w64 zq0]
   rfl)
  (by unfold Jx;simp only[Ae,Ac,Eu,An])
 unfold Afm Ae7
 simp only[Ae,Ai,Ac,Hb]
 rw[show Ay Jx (l,(0:Int),())=_ from e]
 rfl
theorem A3p (p:A9) (a:Bu) (h:Au p≤4294967296): ∃c b,Kp p a=some (c,(b,())):=by
 have hl0:p.2.2.1.length≤Au p:=by simp only[Au];omega
 unfold Kp Vg
 simp only[Ae,Ai,Ac,Ak]
 rw[O9 p a zq0,Kc p zq0,Ge p h]
 simp only[Ag]
 cases Ct p with
 |false=>exact⟨_,_,rfl⟩
 |true=>
  simp only[Bool.not_true,An]
  by_cases hp:Rg (atA a.1 a.2.1) p.2.2.1<0
  ·rw[Am hp,A0];exact⟨_,_,rfl⟩
  ·rw[Bj hp,An]
   obtain⟨m,hm⟩:=Int.eq_ofNat_of_zero_le (show 0≤Rg (atA a.1 a.2.1) p.2.2.1 by omega)
   have hlt:=(A8s (q:=atA a.1 a.2.1) (l:=p.2.2.1)).2
   rw[hm]at hlt ⊢
   have hi:m<p.2.2.1.length:=by omega
   rw[show idx p.2.2.1 ((m:Nat):Int)=some p.2.2.1[m]from Cb (List.getElem?_eq_getElem hi),Ag]
   exact⟨_,_,rfl⟩
theorem A0m (p:A9) (a:Bu) (h:Au p≤4294967296) (hp:Ct p=true) {l:List Al} {x:Al} (hl:p.2.2.1=l++[x]) (hx:atA a.1 a.2.1 x=true) (hn: ∀y∈l,atA a.1 a.2.1 y=false):Kp p a=some (x,(true,())):=by
 have hl0:p.2.2.1.length≤Au p:=by simp only[Au];omega
 have hpos:Rg (atA a.1 a.2.1) p.2.2.1=(l.length:Int):=by
  unfold Rg
  cases hf:Id (fun _ x=>atA a.1 a.2.1 x) p.2.2.1 0 with
  |none=>
   have:=Ud.1 hf l.length x (by rw[hl];simp)
   rw[hx]at this;cases this
  |some k=>
   obtain⟨j,y,hj,hy,hq,hno⟩:=Zz hf
   rw[Nat.zero_add]at hj
   subst hj
   have:k=l.length:=by
    rcases Nat.lt_trichotomy k l.length with hlt|he|hgt
    ·rw[hl,List.getElem?_append_left hlt]at hy
     rw[hn y (List.mem_of_getElem? hy)]at hq;cases hq
    ·exact he
    ·have:=hno l.length x hgt (by rw[hl];simp)
     rw[hx]at this;cases this
   subst this;rfl
 unfold Kp Vg
 simp only[Ae,Ai,Ac,Ak]
 rw[O9 p a zq0,Kc p zq0,Ge p h,hpos,hp]
 simp only[Ag,Bool.not_true,An]
 rw[Bj zq0,An,show idx p.2.2.1 ((l.length:Nat):Int)=some x from Cb (by rw[hl];simp),Ag]
theorem Ax0 (a:YBs):Acv a=some (true,()):=by
 unfold Acv Jy
 simp only[Ai,Ae,Ac]
 rw[show A04 a=some (decide ((a.1.length:Int)>(1048576:Int)),())from rfl,Ag]
 by_cases hb:(a.1.length:Int)>1048576
 ·rw[Am hb,A0]
 rw[Bj hb,An]
 obtain⟨⟨s,n,ad,f,d⟩,e,⟨⟨h1,h1b,h1c⟩,ho,hd⟩,hn,⟨h2,h2w⟩,h3⟩:=Axy a zq0
 dsimp only at h1 h1b h1c h2 h2w h3 ho hd hn
 rw[e,Ag]
 dsimp only
 obtain⟨r,os,ns,k,c1,_,c3,c4,c5⟩:=A0g s n ad f d zq0 zq0 zq0 h2w h1c
 have hF:=A3o s n ad f d zq0 zq0 h2w h1c ho hd h3 c1
 have hpr:Au (A5 r)≤Bw r:=Xr r
 have hd':s.2.2.2.2.2.2.2.2.2.2.2.2.2.2.2.2.2.2.2.2.2.2.2.1=false:=hd
 rw[c1,Ag,Afu s zq0,Afu r zq0,ho]
 simp only[Ag,Bool.not_true,An]
 rcases hF with⟨rfl,rfl,rfl,rfl⟩|⟨g1,g2,g3,g4,g5,g6,g7,g8⟩
 ·rw[ho,Axz [] (fun _ h=>by cases h) zq3,At9 [] (fun _ h=>by cases h) zq3,Avq r zq0]
  simp only[Ag,Bool.not_true,An]
  rw[C7 hd']
  rfl
 rw[g1,Axz os g2 zq0,At9 ns g3 zq0]
 simp only[Ag,Bool.not_true,An]
 rw[C7 hd',show((ns.length:Int)==0)=false by
  cases ns with
  |nil=>exact absurd rfl g5
  |cons _ _=>simp;omega,An]
 have g4':r.2.2.2.2.2.2.2.2.2.2.2.2.2.2.2.2.2.2.2.2.2.2.1=n.1:=g4
 rw[show(r.2.2.2.2.2.2.2.2.2.2.2.2.2.2.2.2.2.2.2.2.2.2.1 != n.1)=false by simp[g4'],An]
 generalize hA:(and (r.2.2.2.2.2.2.2.2.2.2.2.2.2.2.2.2.2.2.1==ad.1) (and (r.2.2.2.2.2.2.2.2.2.2.2.2.2.2.2.2.2.2.2.1==ad.2.1) true))=A
 have hAt:A=true↔((A5 r).1=ad.1∧(A5 r).2.1=ad.2.1):=by
  rw[←hA];simp only[Bool.and_eq_true,beq_iff_eq,and_true]
 obtain⟨d,⟨⟩⟩:=d
 dsimp only at h3 g8 c4
 obtain⟨cd,cb,hcd⟩:=A3p (A5 r) ad zq0
 rw[show Kp (r.2.2.2.2.2.2.2.2.2.2.2.2.2.2.2.2.2.2.1,r.2.2.2.2.2.2.2.2.2.2.2.2.2.2.2.2.2.2.2.1,r.2.2.2.2.2.2.2.2.2.2.2.2.2.2.2.2.2.2.2.2.1,()) ad=some (cd,(cb,()))from hcd]
 simp only[Ag]
 have key: ∀x:Option (Bool×Unit),x=some (true,())→br (!(and (r.2.2.2.2.2.2.2.2.2.2.2.2.2.2.2.2.2.2.1==s.2.2.2.2.2.2.2.2.2.2.2.2.2.2.2.2.2.2.1) (and (r.2.2.2.2.2.2.2.2.2.2.2.2.2.2.2.2.2.2.2.1==s.2.2.2.2.2.2.2.2.2.2.2.2.2.2.2.2.2.2.2.1) true))) (br (!A) (some (false,())) x) x=some (true,()):=fun x hx=>by
  subst hx
  cases hs:(and (r.2.2.2.2.2.2.2.2.2.2.2.2.2.2.2.2.2.2.1==s.2.2.2.2.2.2.2.2.2.2.2.2.2.2.2.2.2.2.1) (and (r.2.2.2.2.2.2.2.2.2.2.2.2.2.2.2.2.2.2.2.1==s.2.2.2.2.2.2.2.2.2.2.2.2.2.2.2.2.2.2.2.1) true))with
  |true=>rfl
  |false=>
   rcases g6 with⟨u1,u2⟩|hu
   ·have u1:r.2.2.2.2.2.2.2.2.2.2.2.2.2.2.2.2.2.2.1=s.2.2.2.2.2.2.2.2.2.2.2.2.2.2.2.2.2.2.1:=u1
    have u2:r.2.2.2.2.2.2.2.2.2.2.2.2.2.2.2.2.2.2.2.1=s.2.2.2.2.2.2.2.2.2.2.2.2.2.2.2.2.2.2.2.1:=u2
    rw[u1,u2]at hs
    simp at hs
   ·rw[hAt.2 hu];rfl
 refine key _ ?_
 cases k with
 |false=>
  rw[An]
  rcases g7 rfl with hr|hr|hr
  ·have hr':decide ((s.2.2.2.2.2.2.2.2.2.2.2.2.2.2.2.2.2.2.2.2.1.length:Int)>0)=true:=by
    have:s.2.2.2.2.2.2.2.2.2.2.2.2.2.2.2.2.2.2.2.2.1.length>0:=hr
    exact Am zq0
   rw[hr']
   cases A<;>cases cb<;>cases ((r.2.2.2.2.2.2.2.2.2.2.2.2.2.2.2.2.2.2.2.2.1.length:Int)==3)<;>cases (r.2.2.2.2.2.2.2.1==(281474976710656:Int))<;>rfl
  ·rw[hAt.2 hr,A0]
  ·have hr':r.2.2.2.2.2.2.2.1=281474976710656:=hr
   rw[hr']
   cases A<;>cases cb<;>cases ((r.2.2.2.2.2.2.2.2.2.2.2.2.2.2.2.2.2.2.2.2.1.length:Int)==3)<;>rfl
 |true=>
  obtain⟨k1,k2,⟨l,u,k3,k4⟩,os',o,rfl,k5,k6,k7⟩:=g8 rfl
  have hlast:=A0m (A5 r) ad zq0 k1 k3 (by unfold atA eqA;simp) k4
  rw[hcd]at hlast
  simp only[Option.some.injEq,Prod.mk.injEq,and_true]at hlast
  obtain⟨rfl,rfl⟩:=hlast
  have hA0:A=false:=by
   cases A with
   |false=>rfl
   |true=>exact absurd (hAt.1 rfl) k2
  subst hA0
  have hlen:IntKind.i64.wrap (((os'++[o]).length:Int)-1)=(os'.length:Int):=by
   have:=List.length_append (as:=os') (bs:=[o])
   simp only[List.length_cons,List.length_nil]at this
   have hb2:(os'++[o]).length≤4294967296:=by omega
   rw[this]at hb2 ⊢
   rw[w64 zq0];omega
  have hidx:idx (os'++[o]) ((os'.length:Nat):Int)=some o:=Cb zq3
  rw[A0,hlen,Am zq0,A0,A0]
  rw[show H4 (d,()) (d,())=some (true,())from Ue _]
  simp only[Ag,A0,hidx,k5,k6,k7,beq_self_eq_true,Bool.and_true,Bool.not_false]
end
end Go.Proofs.YtmhhajdeafijmaaGreat
