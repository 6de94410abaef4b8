/-
  That the program and the reference answer alike, in plain terms, and that the laws answer true.
-/
import Derived.Test.YtmhhajdeafijmaaGreatL27
namespace Go.Proofs.YtmhhajdeafijmaaGreat
open Go.RowKit
set_option linter.unusedVariables false
set_option linter.unusedSimpArgs false
set_option maxRecDepth 100000
set_option maxHeartbeats 4000000
noncomputable section
def orx (d x y:Int):Int:=IntKind.i64.wrap ((BitVec.ofInt (IntKind.i64.bits) d ||| BitVec.ofInt (IntKind.i64.bits) ((IntKind.i64.wrap ((IntKind.u8.wrap ((BitVec.ofInt (IntKind.u8.bits) x ^^^ BitVec.ofInt (IntKind.u8.bits) y).toNat:Nat)))))).toNat:Nat)
theorem A98 {x y:Nat} (hx:x≤255) (hy:y≤255): ∃u:Nat,IntKind.i64.wrap ((IntKind.u8.wrap ((BitVec.ofInt (IntKind.u8.bits) (x:Int) ^^^ BitVec.ofInt (IntKind.u8.bits) (y:Int)).toNat:Nat)))=(u:Int)∧u≤255∧(u=0↔x=y):=by
 have e1:BitVec.ofInt (IntKind.u8.bits) (x:Int)=BitVec.ofNat 8 x:=by show BitVec.ofInt 8 (x:Int)=_;simp
 have e2:BitVec.ofInt (IntKind.u8.bits) (y:Int)=BitVec.ofNat 8 y:=by show BitVec.ofInt 8 (y:Int)=_;simp
 rw[e1,e2]
 have hlt:(BitVec.ofNat 8 x ^^^ BitVec.ofNat 8 y).toNat<256:=(BitVec.ofNat 8 x ^^^ BitVec.ofNat 8 y).isLt
 refine⟨(BitVec.ofNat 8 x ^^^ BitVec.ofNat 8 y).toNat,?_,by omega,?_⟩
 ·show IntKind.i64.wrap (IntKind.u8.wrap (((BitVec.ofNat 8 x ^^^ BitVec.ofNat 8 y).toNat:Nat):Int))=_
  rw[w8 zq0,w64 zq0]
 ·constructor
  ·intro h
   have h1:BitVec.ofNat 8 x ^^^ BitVec.ofNat 8 y=0#8:=by apply BitVec.eq_of_toNat_eq;simpa using h
   have h2:BitVec.ofNat 8 x=BitVec.ofNat 8 y:=by
    have:=congrArg (· ^^^ BitVec.ofNat 8 y) h1
    simpa [BitVec.xor_assoc] using this
   have h3:=congrArg BitVec.toNat h2
   simp only[BitVec.toNat_ofNat]at h3
   omega
  ·intro h;subst h;simp
theorem A99 {d x y:Int} (hd:0≤d∧d≤255) (hx:0≤x∧x≤255) (hy:0≤y∧y≤255):(0≤orx d x y∧orx d x y≤255)∧(orx d x y=0↔d=0∧x=y):=by
 obtain⟨d',rfl⟩:=Int.eq_ofNat_of_zero_le hd.1
 obtain⟨x',rfl⟩:=Int.eq_ofNat_of_zero_le hx.1
 obtain⟨y',rfl⟩:=Int.eq_ofNat_of_zero_le hy.1
 obtain⟨u,u1,u2,u3⟩:=A98 (x:=x') (y:=y') zq0 zq0
 have e1:BitVec.ofInt (IntKind.i64.bits) (d':Int)=BitVec.ofNat 64 d':=Jv d'
 have e2:BitVec.ofInt (IntKind.i64.bits) (u:Int)=BitVec.ofNat 64 u:=Jv u
 have hv:(BitVec.ofNat 64 d' ||| BitVec.ofNat 64 u).toNat=d' ||| u:=by
  rw[BitVec.toNat_or,BitVec.toNat_ofNat,BitVec.toNat_ofNat,Nat.mod_eq_of_lt zq0,Nat.mod_eq_of_lt zq0]
 have hlt:d' ||| u<2^8:=Nat.or_lt_two_pow zq0 zq0
 have hw:IntKind.i64.wrap (((BitVec.ofNat 64 d' ||| BitVec.ofNat 64 u).toNat:Nat):Int)=((d' ||| u:Nat):Int):=by
  rw[hv];exact w64 zq0
 have hz:(d' ||| u)=0↔d'=0∧u=0:=by
  constructor
  ·intro h
   have h1:d'≤d' ||| u:=Nat.left_le_or
   have h2:u≤d' ||| u:=Nat.right_le_or
   omega
  ·rintro⟨rfl,rfl⟩;rfl
 have key:orx (d':Int) (x':Int) (y':Int)=((d' ||| u:Nat):Int):=by
  unfold orx
  rw[u1,e1,e2]
  exact hw
 rw[key]
 refine⟨by omega,?_⟩
 rw[show(((d' ||| u:Nat):Int)=0)↔(d' ||| u)=0 by omega,hz,u3]
 omega
theorem Axu {a b:List YB} {i:Nat} {x y:YB} (hx:a[i]? =some x) (hy:b[i]? =some y):(a.take (i+1)=b.take (i+1))↔(a.take i=b.take i∧x.1=y.1):=by
 have ha:i<a.length:=(List.getElem?_eq_some_iff.1 hx).1
 have hb:i<b.length:=(List.getElem?_eq_some_iff.1 hy).1
 rw[←Ey hx,←Ey hy]
 constructor
 ·intro h
  have:=List.append_inj h zq1
  refine⟨this.1,?_⟩
  have h2:=this.2
  simp only[List.cons.injEq,and_true]at h2
  rw[h2]
 ·rintro⟨h1,h2⟩
  have:x=y:=Prod.ext h2 rfl
  rw[h1,this]
theorem A1h (a b:List YB) (h:a.length≤4294967296): ∃r,Oa (a,()) (b,())=some (r,())∧Ani (a,()) (b,())=some (r,())∧(wfB a→wfB b→(r=0↔a=b)):=by
 unfold Oa Am5 Ani Anh
 simp only[Af,Ah,Ac]
 by_cases hl:a.length=b.length
 ·have e:(((a.length:Int) != (b.length:Int)))=false:=by simp[hl]
  simp only[e,Ap]
  obtain⟨o1,o2,h1,h2,hq⟩:=W1 (B1:=Pp) (B2:=Px)
   (fun i d1 d2=>∃d:Int,(wfB a→wfB b→(0≤d∧d≤255)∧(d=0↔a.take i=b.take i))∧d1=(a,b,d,(a.length:Int),(i:Int),())∧d2=(a,b,d,(i:Int),()))
   (fun o1 o2=>o1=o2∧(wfB a→wfB b→(o1.1=0↔a=b))) a.length
   (by
    rintro i d1 d2 hi ⟨d,hd,rfl,rfl⟩
    have hib:i<b.length:=by omega
    have hx:=List.getElem?_eq_getElem hi
    have hy:=List.getElem?_eq_getElem hib
    left
    unfold Pp Px
    simp only[Af,Ah,Ac,En hi,Az,Ce hx,Ce hy,Ai]
    rw[w64 (n:=(i:Int)+1) zq0]
    refine⟨_,_,rfl,rfl,orx d a[i].1 b[i].1,fun wa wb=>?_,rfl,rfl⟩
    obtain⟨hr,hz⟩:=hd wa wb
    obtain⟨k1,k2⟩:=A99 hr (wa i _ hx) (wb i _ hy)
    exact⟨k1,by rw[k2,hz,Axu hx hy]⟩)
   (by
    rintro d1 d2 ⟨d,hd,rfl,rfl⟩
    unfold Pp Px
    simp only[Af,Ah,Ac,Eo,Ap]
    refine⟨_,_,rfl,rfl,rfl,fun wa wb=>?_⟩
    rw[(hd wa wb).2,List.take_length,hl,List.take_length])
   (d1:=(a,b,(0:Int),(a.length:Int),(0:Int),())) (d2:=(a,b,(0:Int),(0:Int),())) ⟨0,fun _ _=>⟨by omega,by simp⟩,rfl,rfl⟩
  obtain⟨hq1,hq2⟩:=hq
  subst hq1
  rw[h1,h2]
  exact⟨o1.1,rfl,rfl,hq2⟩
 ·have e:(((a.length:Int) != (b.length:Int)))=true:=by simp;omega
  simp only[e,Az]
  exact⟨-1,rfl,rfl,fun _ _=>⟨fun h=>by omega,fun h=>(hl (by rw[h])).elim⟩⟩
theorem A24 (a b:List YB) (h:a.length≤4294967296): ∃r,Aaf (a,()) (b,())=some (r,())∧Aaj (a,()) (b,())=some (r,()):=by
 unfold Aaf Aae Aaj Aai
 simp only[Af,Ah,Ac]
 obtain⟨r,r1,r2,_⟩:=A1h a b h
 rw[r1,r2]
 simp only[Ai]
 cases ((a.length:Int)==(16:Int))<;>exact⟨_,rfl,rfl⟩
theorem A5h (k:List YB) (r:Int) (f:Au) (h:Aq f≤536870912): ∃p b,Aem (k,()) (r,()) f=some ((p,()),(b,()))∧Aey (k,()) (r,()) f=some ((p,()),(b,()))∧p.length≤Aq f∧
  (b=true→k.length=32∧p=mix k (Df r f.2.2.2.1 f.2.2.2.2.2.2.2.1 f.2.2.2.2.2.2.2.2.1) f.2.2.2.2.2.2.2.2.2.1):=by
 have hm:=Ajw k (Df r f.2.2.2.1 f.2.2.2.2.2.2.2.1 f.2.2.2.2.2.2.2.2.1) f.2.2.2.2.2.2.2.2.2.1
 have hn:f.2.2.2.2.2.2.2.2.2.1.length≤Aq f:=by simp only[Aq];omega
 have hn2:f.2.2.2.2.2.2.2.2.2.2.1.length≤Aq f:=by simp only[Aq];omega
 obtain⟨t,t1,t2⟩:=A24 f.2.2.2.2.2.2.2.2.2.2.1 (W4 k (Cw r f)) zq0
 unfold Aem Ael Aey Aex
 simp only[Af,Ah,Ac]
 rw[Qo _ _ h,Qp _ _ h]
 simp only[Ai]
 rw[A8j,A2w]
 simp only[Ai]
 rw[t1,t2]
 simp only[Ai]
 rw[An3,Afx]
 simp only[Ai]
 rw[A8k,A8l]
 simp only[Ai]
 cases hk:((k.length:Int) != (32:Int))with
 |true=>exact⟨[],false,rfl,rfl,by simp,fun h=>by cases h⟩
 |false=>
  cases (((Cw r f).length:Int)==(0:Int))with
  |true=>exact⟨[],false,rfl,rfl,by simp,fun h=>by cases h⟩
  |false=>
   cases t with
   |false=>exact⟨[],false,rfl,rfl,by simp,fun h=>by cases h⟩
   |true=>exact⟨_,true,rfl,rfl,by omega,fun _=>⟨by simp at hk;omega,rfl⟩⟩
def EpO (e:YEp) (r:Int) (f:Au) (e':YEp) (p:List YB) (z:Int):Prop:=
 Bs e'=Bs e∧p.length≤Aq f∧(z≠0→e'=e∧p=[])∧(z=0→Es e=true∧e'=(e.1,e.2.1,e.2.2.1,(Hr (e.2.2.2.1,e.2.2.2.2.1,()) f.2.2.2.2.2.2.2.2.1).1,(Hr (e.2.2.2.1,e.2.2.2.2.1,()) f.2.2.2.2.2.2.2.2.1).2.1,())∧Gt (e.2.2.2.1,e.2.2.2.2.1,()) f.2.2.2.2.2.2.2.2.1=true∧
  f.2.2.2.2.2.2.2.1=e.1∧p=mix e.2.1 (Df r f.2.2.2.1 f.2.2.2.2.2.2.2.1 f.2.2.2.2.2.2.2.2.1) f.2.2.2.2.2.2.2.2.2.1)
theorem X8 (e:YEp) (r:Int) (f:Au) (h:Bs e≤4294967296) (h2:Aq f≤536870912):
  ∃e' p z,F2 e (r,()) f=some (e',(p,()),(z,()))∧H8 e (r,()) f=some (e',(p,()),(z,()))∧EpO e r f e' p z:=by
 have hw:=Amk (e.2.2.2.1,e.2.2.2.2.1,()) f.2.2.2.2.2.2.2.2.1
 have hn:Bs e=e.2.1.length+e.2.2.2.2.1.length:=rfl
 have nope: ∀z:Int,z≠0→ ∃e' p z',some (e,(([]:List YB),()),(z,()))=some (e',(p,()),(z',()))∧some (e,(([]:List YB),()),(z,()))=some (e',(p,()),(z',()))∧EpO e r f e' p z':=fun z hz=>
  ⟨e,[],z,rfl,rfl,rfl,by simp,fun _=>⟨rfl,rfl⟩,fun h=>(hz h).elim⟩
 obtain⟨p,b,u1,u2,u3,u4⟩:=A5h e.2.1 r f h2
 unfold F2 Aen H8 Aez
 simp only[Af,Ah,Ac]
 rw[An4 e h,Afy e h,Aqg e zq0,Aw3 e,Qo _ _ h2,Qp _ _ h2,A7f _ _ zq2,Axt _ _ zq2,Axp _ _ zq2,u1,u2]
 simp only[Ai]
 cases ho:Es e with
 |false=>exact nope 1 zq3
 |true=>
  simp only[Bool.not_true,Ap]
  cases (((Cw r f).length:Int)==(0:Int))with
  |true=>exact nope 1 zq3
  |false=>
   simp only[Ap]
   cases hne:(f.2.2.2.2.2.2.2.1 != e.1)with
   |true=>exact nope 1 zq3
   |false=>
    simp only[Ap]
    cases hm:Gt (e.2.2.2.1,e.2.2.2.2.1,()) f.2.2.2.2.2.2.2.2.1 with
    |false=>exact nope 3 zq3
    |true=>
     simp only[cond_true,Bool.not_true,Ap,Ai]
     cases b with
     |false=>exact nope 2 zq3
     |true=>
      simp only[Bool.not_true,Ap]
      refine⟨_,p,0,rfl,rfl,?_,u3,fun h=>(h rfl).elim,fun _=>⟨ho,rfl,hm,by simpa using hne,(u4 rfl).2⟩⟩
      simp only[D7]at hw
      simp only[Bs];omega
end
end Go.Proofs.YtmhhajdeafijmaaGreat
