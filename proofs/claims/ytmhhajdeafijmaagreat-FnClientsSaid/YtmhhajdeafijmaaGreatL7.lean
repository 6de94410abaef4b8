/-
  That the program and the reference answer alike, in plain terms, and that the laws answer true.
-/
import Derived.Test.YtmhhajdeafijmaaGreatL6
namespace Go.Proofs.YtmhhajdeafijmaaGreat
open Go.RowKit
set_option linter.unusedVariables false
set_option linter.unusedSimpArgs false
set_option maxHeartbeats 4000000
noncomputable section
def m32 (x:Int):Int:=IntKind.i64.wrap ((BitVec.ofInt (IntKind.i64.bits) x &&& BitVec.ofInt (IntKind.i64.bits) (4294967295:Int)).toNat:Nat)
theorem Al6 (x:Int):m32 x=x%4294967296:=by
 have h:((BitVec.ofInt (IntKind.i64.bits) x &&& BitVec.ofInt (IntKind.i64.bits) (4294967295:Int)).toNat:Int)=x%4294967296:=by
  show((BitVec.ofInt 64 x &&& BitVec.ofInt 64 (4294967295:Int)).toNat:Int)=x%4294967296
  rw[BitVec.toNat_and,BitVec.toNat_ofInt,BitVec.toNat_ofInt]
  have e:((4294967295:Int)%((2^64:Nat):Int)).toNat=2^32-1:=by decide
  rw[e,Nat.and_two_pow_sub_one_eq_mod]
  have e2:((2^64:Nat):Int)=18446744073709551616:=by decide
  rw[e2]
  omega
 unfold m32
 rw[h,w64 zq0]
theorem Bdj (s:Int):IntKind.i64.wrap s%4294967296=s%4294967296:=by rw[IntKind.wrap_i64];omega
theorem Ah9 (s:Int):m32 (IntKind.i64.wrap s)=s%4294967296:=by rw[Al6,Bdj]
theorem Bdk (x:Int):0≤m32 x∧m32 x≤4294967295:=by rw[Al6];omega
theorem A9j (d t:Int):m32 (IntKind.i64.wrap (d+m32 t))=m32 (IntKind.i64.wrap (d+t)):=by rw[Ah9,Ah9,Al6];omega
theorem A9k (t u:Int):m32 (IntKind.i64.wrap (m32 t+m32 u))=m32 (IntKind.i64.wrap (t+u)):=by rw[Ah9,Ah9,Al6,Al6];omega
def A4z (x n:Int):Int:=m32 (IntKind.i64.wrap ((BitVec.ofInt (IntKind.i64.bits) (Int.fdiv (m32 x) (2^(min n.toNat IntKind.i64.bits))) ||| BitVec.ofInt (IntKind.i64.bits) (IntKind.i64.wrap (m32 x*2^(min (IntKind.i64.wrap (32-n)).toNat IntKind.i64.bits)))).toNat:Nat))
theorem As0 (x n:YI) (h1:1≤n.1) (h2:n.1≤31):Ho x n=some (A4z x.1 n.1,()):=by
 unfold Ho At3
 simp only[Aj,Aq,Af]
 rw[Bg zq0,Bg zq0,Ap zq0,w64 (n:=32-n.1) zq0,Ap zq0]
 simp only[Aw,Bd,A4z]
 rw[w64 (n:=32-n.1) zq0]
 rfl
theorem As1 (x n:YI) (h1:1≤n.1) (h2:n.1≤31):Hn x n=some (A4z x.1 n.1,()):=by
 unfold Hn Atx
 simp only[Aj,Aq,Af]
 rw[Bg zq0,Bg zq0,Ap zq0,w64 (n:=32-n.1) zq0,Ap zq0]
 simp only[Aw,Bd,A4z]
 rw[w64 (n:=32-n.1) zq0]
 rfl
theorem A3g (a b:YI):Aau a b=some (m32 (IntKind.i64.wrap (a.1+b.1)),()):=rfl
def Sl (l:List YB):Int:=l.foldl (fun n x=>IntKind.i64.wrap (IntKind.i64.wrap (n*256)+IntKind.i64.wrap x.1)) 0
theorem Aox (l:List YB) (x:YB):Sl (l++[x])=IntKind.i64.wrap (IntKind.i64.wrap (Sl l*256)+IntKind.i64.wrap x.1):=by simp[Sl]
def Azh (b:List YB) (p k:Int):YI×YI×(Bool×Unit):=
 if 1≤k∧k≤6∧0≤p∧p+k≤b.length then((Sl ((b.drop p.toNat).take k.toNat),()),(p+k,()),(true,()))else((0,()),(0,()),(false,()))
theorem Bcc (b:List YB) (p k:Int) (hl:b.length≤4294967296):Apm (b,()) (p,()) (k,())=some (Azh b p k):=by
 unfold Apm Apl Azh
 simp only[Aj,Al,Af]
 by_cases h1:k<1
 ·rw[Ap h1,Az,if_neg zq0]
 rw[Bg h1,Aw]
 by_cases h2:k>6
 ·rw[Ap h2,Az,if_neg zq0]
 rw[Bg h2,Aw]
 by_cases h3:p<0
 ·rw[Ap h3,Az,if_neg zq0]
 rw[Bg h3,Aw,w64 (n:=(b.length:Int)-k) zq0]
 by_cases h4:p>(b.length:Int)-k
 ·rw[Ap h4,Az,if_neg zq0]
 rw[Bg h4,Aw,if_pos zq0]
 have hr:=Cv (B:=Ll) k.toNat (fun i=>(b,p,k,Sl ((b.drop p.toNat).take i),(i:Int),())) (p,k,Sl ((b.drop p.toNat).take k.toNat),())
  (fun i hi=>by
   have hlt:p.toNat+i<b.length:=by omega
   have hx:=List.getElem?_eq_getElem hlt
   have hx2:(b.drop p.toNat)[i]? =some b[p.toNat+i]:=by rw[List.getElem?_drop];exact hx
   unfold Ll
   simp only[Aj,Al,Af]
   rw[Ap zq0,Az,w64 (n:=p+(i:Int)) zq0,show p+(i:Int)=((p.toNat+i:Nat):Int) by omega,Di hx,An,w64 (n:=(i:Int)+1) zq0,←Gk hx2,Aox]
   rfl)
  (by
   unfold Ll
   simp only[Aj,Al,Af]
   rw[Bg zq0,Aw])
 rw[show A1 Ll (b,p,k,(0:Int),(0:Int),())=_ from hr,An]
 simp only
 rw[w64 zq0]
theorem Bdl (b:List YB) (p n:Int) (hl:b.length≤4294967296):At2 (b,()) (p,()) (n,())=some (if 0≤p∧0≤n∧p+n≤b.length then(((b.drop p.toNat).take n.toNat,()),(true,()))else(([],()),(false,()))):=by
 unfold At2 At1
 simp only[Aj,Aq,Af]
 by_cases h1:p<0
 ·rw[Ap h1,Az,if_neg zq0]
 rw[Bg h1,Aw]
 by_cases h2:n<0
 ·rw[Ap h2,Az,if_neg zq0]
 rw[Bg h2,Aw]
 by_cases h3:p>(b.length:Int)
 ·rw[Ap h3,Az,if_neg zq0]
 rw[Bg h3,Aw,w64 (n:=(b.length:Int)-p) zq0]
 by_cases h4:n>(b.length:Int)-p
 ·rw[Ap h4,Az,if_neg zq0]
 rw[Bg h4,Aw,if_pos zq0,w64 (n:=p+n) zq0,Ap zq0,Ap zq0,Ap zq0,Ap zq1]
 simp only[Bd,List.nil_append]
 rw[show(p+n).toNat=p.toNat+n.toNat by omega,List.drop_take,Nat.add_sub_cancel_left]
theorem Bcd (b:List YB) (p k:Int) (hl:b.length≤4294967296):Apx (b,()) (p,()) (k,())=some (Azh b p k):=by
 unfold Apx Apw Azh
 simp only[Aj,Al,Af]
 by_cases h1:k<1
 ·rw[Ap h1,Az,if_neg zq0]
 rw[Bg h1,Aw]
 by_cases h2:k>6
 ·rw[Ap h2,Az,if_neg zq0]
 rw[Bg h2,Aw,Bdl _ _ _ hl,An]
 by_cases h3:0≤p∧0≤k∧p+k≤b.length
 ·rw[if_pos h3,if_pos zq0]
  simp only[Bool.not_true,Aw]
  have hlen:((b.drop p.toNat).take k.toNat).length=k.toNat:=by simp;omega
  have hr:=Cv (B:=Lr) k.toNat (fun i=>(p,k,Sl (((b.drop p.toNat).take k.toNat).take i),(b.drop p.toNat).take k.toNat,(((b.drop p.toNat).take k.toNat).length:Int),(i:Int),())) (p,k,Sl ((b.drop p.toNat).take k.toNat),())
   (fun i hi=>by
    have hx:=List.getElem?_eq_getElem (show i<((b.drop p.toNat).take k.toNat).length by omega)
    unfold Lr
    simp only[Aj,Al,Af]
    rw[Ap zq0,Az,Di hx,An,w64 (n:=(i:Int)+1) zq0,←Gk hx,Aox,Int.mul_comm 256]
    rfl)
   (by
    unfold Lr
    simp only[Aj,Al,Af]
    rw[Bg zq0,Aw,List.take_take,Nat.min_self])
  rw[show A1 Lr (p,k,(0:Int),(b.drop p.toNat).take k.toNat,(((b.drop p.toNat).take k.toNat).length:Int),(0:Int),())=_ from hr,An]
  simp only
  rw[w64 zq0]
 ·rw[if_neg h3,if_neg zq0]
  rfl
theorem Aia {E:Type} {l z:List E} {n:Int} (h0:0≤n) (h1:n<l.length):idx (l++z) n=idx l n:=by
 unfold idx
 rw[if_pos h0,if_pos h0,List.getElem?_append_left zq0]
theorem Av9 {l:List YI} {i k:Nat} (h:l.length=i) (hk:i<k) (x:YI):(l++List.replicate (k-i) ((0:Int),())).set i x=(l++[x])++List.replicate (k-(i+1)) ((0:Int),()):=by
 rw[List.set_append_right _ _ zq0,h,Nat.sub_self,show k-i=(k-(i+1))+1 by omega,List.replicate_succ,List.set_cons_zero]
 simp
theorem Azi {l:List YI} {i k:Nat} (h:l.length=i) (hk:i<k):idx (l++List.replicate (k-i) ((0:Int),())) (i:Int)=some ((0:Int),()):=by
 rw[A4x,List.getElem?_append_right zq0,h,Nat.sub_self,List.getElem?_replicate,if_pos zq0]
theorem A2g (b:List YB) (hl:b.length≤4294967296): ∃r,X7 (b,())=some (r,())∧Xd (b,())=some (r,())∧(b.length=64→r.length=64):=by
 unfold X7 Oh Xd N6
 simp only[Aj,Al,Af]
 by_cases h:b.length=64
 ·rw[Cp (by simp[h]),Cp (by simp[h])]
  obtain⟨o1,o2,h1,h2,hq⟩:=Z7 (B1:=Gm) (B2:=Gl)
   (fun i d1 d2=>∃l:List YI,l.length=i∧d1=(b,l++List.replicate (64-i) ((0:Int),()),(i:Int),())∧d2=(b,l,(i:Int),()))
   (fun o1 o2=>o2.1.length=16∧o1=(o2.1++List.replicate 48 ((0:Int),()),())) 16
   (by
    rintro i d1 d2 hi ⟨l,hll,rfl,rfl⟩
    left
    unfold Gm Gl
    simp only[Aj,Al,Af,Aq]
    rw[Ap zq0,Az,Az,w64 (n:=4*(i:Int)) zq0,Bcd _ _ _ hl,Bcc _ _ _ hl,An,An,Azi hll zq0,An,Ap zq1,Bd,w64 zq0,Int.toNat_natCast,Av9 hll zq0]
    exact⟨_,_,rfl,rfl,l++[(Azh b (4*(i:Int)) 4).1],by simp[hll],rfl,rfl⟩)
   (by
    rintro d1 d2 ⟨l,hll,rfl,rfl⟩
    unfold Gm Gl
    simp only[Aj,Al,Af,Aq]
    rw[Bg zq0,Aw,Aw]
    exact⟨_,_,rfl,rfl,hll,by simp only[Nat.reduceSub]⟩)
   (d1:=(b,List.replicate 64 ((0:Int),()),(0:Int),())) (d2:=(b,[],(0:Int),())) ⟨[],rfl,by simp only[Nat.sub_zero,List.nil_append,Int.natCast_zero],by simp only[Int.natCast_zero]⟩
  rw[show(64:Int).toNat=64 from rfl,h1,h2,An,An]
  obtain⟨hq1,rfl⟩:=hq
  obtain⟨o3,o4,h3,h4,hq⟩:=Z7 (B1:=Gn) (B2:=F2)
   (fun i d1 d2=>∃l:List YI,l.length=16+i∧d1=(l++List.replicate (64-(16+i)) ((0:Int),()),((16+i:Nat):Int),())∧d2=(l,((16+i:Nat):Int),()))
   (fun o1 o2=>o1=o2∧o2.1.length=64) 48
   (by
    rintro i d1 d2 hi ⟨l,hll,rfl,rfl⟩
    left
    obtain⟨e1,g1,_⟩:=Qp (l:=l) (n:=((16+i:Nat):Int)-15) zq0 zq0
    obtain⟨e2,g2,_⟩:=Qp (l:=l) (n:=((16+i:Nat):Int)-2) zq0 zq0
    obtain⟨e3,g3,_⟩:=Qp (l:=l) (n:=((16+i:Nat):Int)-7) zq0 zq0
    obtain⟨e4,g4,_⟩:=Qp (l:=l) (n:=((16+i:Nat):Int)-16) zq0 zq0
    unfold Gn F2
    simp only[Aj,Al,Af,Aq]
    rw[Ap zq0,Az,Az,w64 (n:=((16+i:Nat):Int)-15) zq0,w64 (n:=((16+i:Nat):Int)-2) zq0,w64 (n:=((16+i:Nat):Int)-7) zq0,w64 (n:=((16+i:Nat):Int)-16) zq0,
     w64 (n:=((16+i:Nat):Int)+1) zq0]
    rw[Aia zq0 zq0,g1,An,Aia zq0 zq0,g2,An,As0 _ _ zq4 zq4,An,As0 _ _ zq4 zq4,An,As0 _ _ zq4 zq4,An,As0 _ _ zq4 zq4,An,Aia zq0 zq0,g3,An,Aia zq0 zq0,g4,An,Azi hll zq0,An]
    rw[An,An,As1 _ _ zq4 zq4,An,As1 _ _ zq4 zq4,An,As1 _ _ zq4 zq4,An,As1 _ _ zq4 zq4,An,An,An,Int.toNat_natCast]
    generalize IntKind.i64.wrap (((BitVec.ofInt _ _ &&& BitVec.ofInt _ (4294967295:Int)).toNat:Nat):Int)=z
    rw[Ap (by rw[List.length_singleton];omega),Bd,Av9 hll zq0]
    exact⟨_,_,rfl,rfl,_,by simp[hll];omega,rfl,rfl⟩)
   (by
    rintro d1 d2 ⟨l,hll,rfl,rfl⟩
    unfold Gn F2
    simp only[Aj,Al,Af,Aq]
    rw[Bg zq0,Aw,Aw]
    exact⟨_,_,rfl,rfl,by simp,by omega⟩)
   (d1:=(o2.1++List.replicate 48 ((0:Int),()),(16:Int),())) (d2:=(o2.1,(16:Int),())) ⟨o2.1,hq1,by simp only[Nat.add_zero,Nat.reduceSub];rfl,rfl⟩
  rw[h3,h4]
  obtain⟨rfl,hq2⟩:=hq
  exact⟨o3.1,rfl,rfl,fun _=>hq2⟩
 ·have h': ¬((b.length:Int)=64):=by omega
  rw[D6 (by simpa using h'),D6 (by simpa using h')]
  exact⟨[],rfl,rfl,fun h2=>(h h2).elim⟩
end
end Go.Proofs.YtmhhajdeafijmaaGreat
