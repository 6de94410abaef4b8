/-
  That the program and the reference answer alike, in plain terms, and that the laws answer true.
-/
import Derived.Test.YtjlblagmjlmglaaGreatL27
namespace Go.Proofs.YtjlblagmjlmglaaGreat
open Go.RowKit
set_option linter.unusedVariables false
set_option linter.unusedSimpArgs false
set_option maxRecDepth 100000
set_option maxHeartbeats 4000000
noncomputable section
def orx (d x y:Int):Int:=IntKind.i64.wrap ((BitVec.ofInt (IntKind.i64.bits) d ||| BitVec.ofInt (IntKind.i64.bits) ((IntKind.i64.wrap ((IntKind.u8.wrap ((BitVec.ofInt (IntKind.u8.bits) x ^^^ BitVec.ofInt (IntKind.u8.bits) y).toNat:Nat)))))).toNat:Nat)
theorem Bch {x y:Nat} (hx:x≤255) (hy:y≤255): ∃u:Nat,IntKind.i64.wrap ((IntKind.u8.wrap ((BitVec.ofInt (IntKind.u8.bits) (x:Int) ^^^ BitVec.ofInt (IntKind.u8.bits) (y:Int)).toNat:Nat)))=(u:Int)∧u≤255∧(u=0↔x=y):=by
 have e1:BitVec.ofInt (IntKind.u8.bits) (x:Int)=BitVec.ofNat 8 x:=by show BitVec.ofInt 8 (x:Int)=_;simp
 have e2:BitVec.ofInt (IntKind.u8.bits) (y:Int)=BitVec.ofNat 8 y:=by show BitVec.ofInt 8 (y:Int)=_;simp
 rw[e1,e2]
 have hlt:(BitVec.ofNat 8 x ^^^ BitVec.ofNat 8 y).toNat<256:=(BitVec.ofNat 8 x ^^^ BitVec.ofNat 8 y).isLt
 refine⟨(BitVec.ofNat 8 x ^^^ BitVec.ofNat 8 y).toNat,?_,by omega,?_⟩
 ·show IntKind.i64.wrap (IntKind.u8.wrap (((BitVec.ofNat 8 x ^^^ BitVec.ofNat 8 y).toNat:Nat):Int))=_
  rw[w8 zq0,w64 zq0]
 ·constructor
  ·intro h
   have h1:BitVec.ofNat 8 x ^^^ BitVec.ofNat 8 y=0#8:=by apply BitVec.eq_of_toNat_eq;simpa using h
   have h2:BitVec.ofNat 8 x=BitVec.ofNat 8 y:=by
    have:=congrArg (· ^^^ BitVec.ofNat 8 y) h1
    simpa [BitVec.xor_assoc] using this
   have h3:=congrArg BitVec.toNat h2
   simp only[BitVec.toNat_ofNat]at h3
   omega
  ·intro h;subst h;simp
theorem Bci {d x y:Int} (hd:0≤d∧d≤255) (hx:0≤x∧x≤255) (hy:0≤y∧y≤255):(0≤orx d x y∧orx d x y≤255)∧(orx d x y=0↔d=0∧x=y):=by
 obtain⟨d',rfl⟩:=Int.eq_ofNat_of_zero_le hd.1
 obtain⟨x',rfl⟩:=Int.eq_ofNat_of_zero_le hx.1
 obtain⟨y',rfl⟩:=Int.eq_ofNat_of_zero_le hy.1
 obtain⟨u,u1,u2,u3⟩:=Bch (x:=x') (y:=y') zq0 zq0
 have e1:BitVec.ofInt (IntKind.i64.bits) (d':Int)=BitVec.ofNat 64 d':=Jb d'
 have e2:BitVec.ofInt (IntKind.i64.bits) (u:Int)=BitVec.ofNat 64 u:=Jb u
 have hv:(BitVec.ofNat 64 d' ||| BitVec.ofNat 64 u).toNat=d' ||| u:=by
  rw[BitVec.toNat_or,BitVec.toNat_ofNat,BitVec.toNat_ofNat,Nat.mod_eq_of_lt zq0,Nat.mod_eq_of_lt zq0]
 have hlt:d' ||| u<2^8:=Nat.or_lt_two_pow zq0 zq0
 have hw:IntKind.i64.wrap (((BitVec.ofNat 64 d' ||| BitVec.ofNat 64 u).toNat:Nat):Int)=((d' ||| u:Nat):Int):=by
  rw[hv];exact w64 zq0
 have hz:(d' ||| u)=0↔d'=0∧u=0:=by
  constructor
  ·intro h
   have h1:d'≤d' ||| u:=Nat.left_le_or
   have h2:u≤d' ||| u:=Nat.right_le_or
   omega
  ·rintro⟨rfl,rfl⟩;rfl
 have key:orx (d':Int) (x':Int) (y':Int)=((d' ||| u:Nat):Int):=by
  unfold orx
  rw[u1,e1,e2]
  exact hw
 rw[key]
 refine⟨by omega,?_⟩
 rw[show(((d' ||| u:Nat):Int)=0)↔(d' ||| u)=0 by omega,hz,u3]
 omega
theorem Azt {a b:List YB} {i:Nat} {x y:YB} (hx:a[i]? =some x) (hy:b[i]? =some y):(a.take (i+1)=b.take (i+1))↔(a.take i=b.take i∧x.1=y.1):=by
 have ha:i<a.length:=(List.getElem?_eq_some_iff.1 hx).1
 have hb:i<b.length:=(List.getElem?_eq_some_iff.1 hy).1
 rw[←Gs hx,←Gs hy]
 constructor
 ·intro h
  have:=List.append_inj h zq1
  refine⟨this.1,?_⟩
  have h2:=this.2
  simp only[List.cons.injEq,and_true]at h2
  rw[h2]
 ·rintro⟨h1,h2⟩
  have:x=y:=Prod.ext h2 rfl
  rw[h1,this]
theorem A3c (a b:List YB) (h:a.length≤4294967296): ∃r,Ng (a,()) (b,())=some (r,())∧Apt (a,()) (b,())=some (r,())∧(wfB a→wfB b→(r=0↔a=b)):=by
 unfold Ng Ay4 Apt Apc
 simp only[Ai,Aj,Ad]
 by_cases hl:a.length=b.length
 ·have e:(((a.length:Int) != (b.length:Int)))=false:=by simp[hl]
  simp only[e,Aq]
  obtain⟨o1,o2,h1,h2,hq⟩:=Z3 (B1:=Wu) (B2:=Of)
   (fun i d1 d2=>∃d:Int,(wfB a→wfB b→(0≤d∧d≤255)∧(d=0↔a.take i=b.take i))∧d1=(a,b,d,(a.length:Int),(i:Int),())∧d2=(a,b,d,(i:Int),()))
   (fun o1 o2=>o1=o2∧(wfB a→wfB b→(o1.1=0↔a=b))) a.length
   (by
    rintro i d1 d2 hi ⟨d,hd,rfl,rfl⟩
    have hib:i<b.length:=by omega
    have hx:=List.getElem?_eq_getElem hi
    have hy:=List.getElem?_eq_getElem hib
    left
    unfold Wu Of
    simp only[Ai,Aj,Ad,Zw hi,Ax,Dz hx,Dz hy,Al]
    rw[w64 (n:=(i:Int)+1) zq0]
    refine⟨_,_,rfl,rfl,orx d a[i].1 b[i].1,fun wa wb=>?_,rfl,rfl⟩
    obtain⟨hr,hz⟩:=hd wa wb
    obtain⟨k1,k2⟩:=Bci hr (wa i _ hx) (wb i _ hy)
    exact⟨k1,by rw[k2,hz,Azt hx hy]⟩)
   (by
    rintro d1 d2 ⟨d,hd,rfl,rfl⟩
    unfold Wu Of
    simp only[Ai,Aj,Ad,Zx,Aq]
    refine⟨_,_,rfl,rfl,rfl,fun wa wb=>?_⟩
    rw[(hd wa wb).2,List.take_length,hl,List.take_length])
   (d1:=(a,b,(0:Int),(a.length:Int),(0:Int),())) (d2:=(a,b,(0:Int),(0:Int),())) ⟨0,fun _ _=>⟨by omega,by simp⟩,rfl,rfl⟩
  obtain⟨hq1,hq2⟩:=hq
  subst hq1
  rw[h1,h2]
  exact⟨o1.1,rfl,rfl,hq2⟩
 ·have e:(((a.length:Int) != (b.length:Int)))=true:=by simp;omega
  simp only[e,Ax]
  exact⟨-1,rfl,rfl,fun _ _=>⟨fun h=>by omega,fun h=>(hl (by rw[h])).elim⟩⟩
theorem A5b (a b:List YB) (h:a.length≤4294967296): ∃r,Ac6 (a,()) (b,())=some (r,())∧Acv (a,()) (b,())=some (r,()):=by
 unfold Ac6 Aod Acv Ab7
 simp only[Ai,Aj,Ad]
 obtain⟨r,r1,r2,_⟩:=A3c a b h
 rw[r1,r2]
 simp only[Al]
 cases ((a.length:Int)==(16:Int))<;>exact⟨_,rfl,rfl⟩
theorem A7t (k:List YB) (r:Int) (f:Aa) (h:Ar f≤536870912): ∃p b,Ahl (k,()) (r,()) f=some ((p,()),(b,()))∧Ag5 (k,()) (r,()) f=some ((p,()),(b,()))∧p.length≤Ar f∧
  (b=true→k.length=32∧p=mix k (Cp r f.2.2.2.1 f.2.2.2.2.2.2.2.1 f.2.2.2.2.2.2.2.2.1) f.2.2.2.2.2.2.2.2.2.1):=by
 have hm:=Alt k (Cp r f.2.2.2.1 f.2.2.2.2.2.2.2.1 f.2.2.2.2.2.2.2.2.1) f.2.2.2.2.2.2.2.2.2.1
 have hn:f.2.2.2.2.2.2.2.2.2.1.length≤Ar f:=by simp only[Ar];omega
 have hn2:f.2.2.2.2.2.2.2.2.2.2.1.length≤Ar f:=by simp only[Ar];omega
 obtain⟨t,t1,t2⟩:=A5b f.2.2.2.2.2.2.2.2.2.2.1 (Pb k (Dr r f)) zq0
 unfold Ahl Asj Ag5 Afw
 simp only[Ai,Aj,Ad]
 rw[Pd _ _ h,Pe _ _ h]
 simp only[Al]
 rw[A4z,A40]
 simp only[Al]
 rw[t1,t2]
 simp only[Al]
 rw[Ap3,Ahx]
 simp only[Al]
 rw[Baw,Bax]
 simp only[Al]
 cases hk:((k.length:Int) != (32:Int))with
 |true=>exact⟨[],false,rfl,rfl,by simp,fun h=>by cases h⟩
 |false=>
  cases (((Dr r f).length:Int)==(0:Int))with
  |true=>exact⟨[],false,rfl,rfl,by simp,fun h=>by cases h⟩
  |false=>
   cases t with
   |false=>exact⟨[],false,rfl,rfl,by simp,fun h=>by cases h⟩
   |true=>exact⟨_,true,rfl,rfl,by omega,fun _=>⟨by simp at hk;omega,rfl⟩⟩
def EpO (e:YEp) (r:Int) (f:Aa) (e':YEp) (p:List YB) (z:Int):Prop:=
 Bm e'=Bm e∧p.length≤Ar f∧(z≠0→e'=e∧p=[])∧(z=0→E0 e=true∧e'=(e.1,e.2.1,e.2.2.1,(Hi (e.2.2.2.1,e.2.2.2.2.1,()) f.2.2.2.2.2.2.2.2.1).1,(Hi (e.2.2.2.1,e.2.2.2.2.1,()) f.2.2.2.2.2.2.2.2.1).2.1,())∧Gj (e.2.2.2.1,e.2.2.2.2.1,()) f.2.2.2.2.2.2.2.2.1=true∧
  f.2.2.2.2.2.2.2.1=e.1∧p=mix e.2.1 (Cp r f.2.2.2.1 f.2.2.2.2.2.2.2.1 f.2.2.2.2.2.2.2.2.1) f.2.2.2.2.2.2.2.2.2.1)
theorem Aa8 (e:YEp) (r:Int) (f:Aa) (h:Bm e≤4294967296) (h2:Ar f≤536870912):
  ∃e' p z,Fv e (r,()) f=some (e',(p,()),(z,()))∧Hy e (r,()) f=some (e',(p,()),(z,()))∧EpO e r f e' p z:=by
 have hw:=Aoi (e.2.2.2.1,e.2.2.2.2.1,()) f.2.2.2.2.2.2.2.2.1
 have hn:Bm e=e.2.1.length+e.2.2.2.2.1.length:=rfl
 have nope: ∀z:Int,z≠0→ ∃e' p z',some (e,(([]:List YB),()),(z,()))=some (e',(p,()),(z',()))∧some (e,(([]:List YB),()),(z,()))=some (e',(p,()),(z',()))∧EpO e r f e' p z':=fun z hz=>
  ⟨e,[],z,rfl,rfl,rfl,by simp,fun _=>⟨rfl,rfl⟩,fun h=>(hz h).elim⟩
 obtain⟨p,b,u1,u2,u3,u4⟩:=A7t e.2.1 r f h2
 unfold Fv Ask Hy Afz
 simp only[Ai,Aj,Ad]
 rw[Ap4 e h,Ahy e h,Asn e zq0,Ay6 e,Pd _ _ h2,Pe _ _ h2,A9p _ _ zq2,Azs _ _ zq2,Azo _ _ zq2,u1,u2]
 simp only[Al]
 cases ho:E0 e with
 |false=>exact nope 1 zq4
 |true=>
  simp only[Bool.not_true,Aq]
  cases (((Dr r f).length:Int)==(0:Int))with
  |true=>exact nope 1 zq4
  |false=>
   simp only[Aq]
   cases hne:(f.2.2.2.2.2.2.2.1 != e.1)with
   |true=>exact nope 1 zq4
   |false=>
    simp only[Aq]
    cases hm:Gj (e.2.2.2.1,e.2.2.2.2.1,()) f.2.2.2.2.2.2.2.2.1 with
    |false=>exact nope 3 zq4
    |true=>
     simp only[cond_true,Bool.not_true,Aq,Al]
     cases b with
     |false=>exact nope 2 zq4
     |true=>
      simp only[Bool.not_true,Aq]
      refine⟨_,p,0,rfl,rfl,?_,u3,fun h=>(h rfl).elim,fun _=>⟨ho,rfl,hm,by simpa using hne,(u4 rfl).2⟩⟩
      simp only[D0]at hw
      simp only[Bm];omega
end
end Go.Proofs.YtjlblagmjlmglaaGreat
