/-
  That the program and the reference answer alike, in plain terms, and that the laws answer true.
-/
import Derived.Test.YtjlblagmjlmglaaGreatL6
namespace Go.Proofs.YtjlblagmjlmglaaGreat
open Go.RowKit
set_option linter.unusedVariables false
set_option linter.unusedSimpArgs false
set_option maxHeartbeats 4000000
noncomputable section
def m32 (x:Int):Int:=IntKind.i64.wrap ((BitVec.ofInt (IntKind.i64.bits) x &&& BitVec.ofInt (IntKind.i64.bits) (4294967295:Int)).toNat:Nat)
theorem Alo (x:Int):m32 x=x%4294967296:=by
 have h:((BitVec.ofInt (IntKind.i64.bits) x &&& BitVec.ofInt (IntKind.i64.bits) (4294967295:Int)).toNat:Int)=x%4294967296:=by
  show((BitVec.ofInt 64 x &&& BitVec.ofInt 64 (4294967295:Int)).toNat:Int)=x%4294967296
  rw[BitVec.toNat_and,BitVec.toNat_ofInt,BitVec.toNat_ofInt]
  have e:((4294967295:Int)%((2^64:Nat):Int)).toNat=2^32-1:=by decide
  rw[e,Nat.and_two_pow_sub_one_eq_mod]
  have e2:((2^64:Nat):Int)=18446744073709551616:=by decide
  rw[e2]
  omega
 unfold m32
 rw[h,w64 zq0]
theorem Bdk (s:Int):IntKind.i64.wrap s%4294967296=s%4294967296:=by rw[IntKind.wrap_i64];omega
theorem Ahr (s:Int):m32 (IntKind.i64.wrap s)=s%4294967296:=by rw[Alo,Bdk]
theorem Bdl (x:Int):0≤m32 x∧m32 x≤4294967295:=by rw[Alo];omega
theorem A9g (d t:Int):m32 (IntKind.i64.wrap (d+m32 t))=m32 (IntKind.i64.wrap (d+t)):=by rw[Ahr,Ahr,Alo];omega
theorem A9h (t u:Int):m32 (IntKind.i64.wrap (m32 t+m32 u))=m32 (IntKind.i64.wrap (t+u)):=by rw[Ahr,Ahr,Alo,Alo];omega
def A4r (x n:Int):Int:=m32 (IntKind.i64.wrap ((BitVec.ofInt (IntKind.i64.bits) (Int.fdiv (m32 x) (2^(min n.toNat IntKind.i64.bits))) ||| BitVec.ofInt (IntKind.i64.bits) (IntKind.i64.wrap (m32 x*2^(min (IntKind.i64.wrap (32-n)).toNat IntKind.i64.bits)))).toNat:Nat))
theorem Aso (x n:YI) (h1:1≤n.1) (h2:n.1≤31):Hu x n=some (A4r x.1 n.1,()):=by
 unfold Hu Atx
 simp only[Ai,Ap,Ad]
 rw[Bb zq0,Bb zq0,Ao zq0,w64 (n:=32-n.1) zq0,Ao zq0]
 simp only[Aq,A8,A4r]
 rw[w64 (n:=32-n.1) zq0]
 rfl
theorem Asp (x n:YI) (h1:1≤n.1) (h2:n.1≤31):Hs x n=some (A4r x.1 n.1,()):=by
 unfold Hs Atn
 simp only[Ai,Ap,Ad]
 rw[Bb zq0,Bb zq0,Ao zq0,w64 (n:=32-n.1) zq0,Ao zq0]
 simp only[Aq,A8,A4r]
 rw[w64 (n:=32-n.1) zq0]
 rfl
theorem A25 (a b:YI):Aax a b=some (m32 (IntKind.i64.wrap (a.1+b.1)),()):=rfl
def Sm (l:List YB):Int:=l.foldl (fun n x=>IntKind.i64.wrap (IntKind.i64.wrap (n*256)+IntKind.i64.wrap x.1)) 0
theorem Aof (l:List YB) (x:YB):Sm (l++[x])=IntKind.i64.wrap (IntKind.i64.wrap (Sm l*256)+IntKind.i64.wrap x.1):=by simp[Sm]
def Aza (b:List YB) (p k:Int):YI×YI×(Bool×Unit):=
 if 1≤k∧k≤6∧0≤p∧p+k≤b.length then((Sm ((b.drop p.toNat).take k.toNat),()),(p+k,()),(true,()))else((0,()),(0,()),(false,()))
theorem Bca (b:List YB) (p k:Int) (hl:b.length≤4294967296):Aps (b,()) (p,()) (k,())=some (Aza b p k):=by
 unfold Aps Ao5 Aza
 simp only[Ai,Aj,Ad]
 by_cases h1:k<1
 ·rw[Ao h1,Ax,if_neg zq0]
 rw[Bb h1,Aq]
 by_cases h2:k>6
 ·rw[Ao h2,Ax,if_neg zq0]
 rw[Bb h2,Aq]
 by_cases h3:p<0
 ·rw[Ao h3,Ax,if_neg zq0]
 rw[Bb h3,Aq,w64 (n:=(b.length:Int)-k) zq0]
 by_cases h4:p>(b.length:Int)-k
 ·rw[Ao h4,Ax,if_neg zq0]
 rw[Bb h4,Aq,if_pos zq0]
 have hr:=C5 (B:=Lu) k.toNat (fun i=>(b,p,k,Sm ((b.drop p.toNat).take i),(i:Int),())) (p,k,Sm ((b.drop p.toNat).take k.toNat),())
  (fun i hi=>by
   have hlt:p.toNat+i<b.length:=by omega
   have hx:=List.getElem?_eq_getElem hlt
   have hx2:(b.drop p.toNat)[i]? =some b[p.toNat+i]:=by rw[List.getElem?_drop];exact hx
   unfold Lu
   simp only[Ai,Aj,Ad]
   rw[Ao zq0,Ax,w64 (n:=p+(i:Int)) zq0,show p+(i:Int)=((p.toNat+i:Nat):Int) by omega,Dz hx,Al,w64 (n:=(i:Int)+1) zq0,←Gs hx2,Aof]
   rfl)
  (by
   unfold Lu
   simp only[Ai,Aj,Ad]
   rw[Bb zq0,Aq])
 rw[show Az Lu (b,p,k,(0:Int),(0:Int),())=_ from hr,Al]
 simp only
 rw[w64 zq0]
theorem Bdm (b:List YB) (p n:Int) (hl:b.length≤4294967296):At6 (b,()) (p,()) (n,())=some (if 0≤p∧0≤n∧p+n≤b.length then(((b.drop p.toNat).take n.toNat,()),(true,()))else(([],()),(false,()))):=by
 unfold At6 Atv
 simp only[Ai,Ap,Ad]
 by_cases h1:p<0
 ·rw[Ao h1,Ax,if_neg zq0]
 rw[Bb h1,Aq]
 by_cases h2:n<0
 ·rw[Ao h2,Ax,if_neg zq0]
 rw[Bb h2,Aq]
 by_cases h3:p>(b.length:Int)
 ·rw[Ao h3,Ax,if_neg zq0]
 rw[Bb h3,Aq,w64 (n:=(b.length:Int)-p) zq0]
 by_cases h4:n>(b.length:Int)-p
 ·rw[Ao h4,Ax,if_neg zq0]
 rw[Bb h4,Aq,if_pos zq0,w64 (n:=p+n) zq0,Ao zq0,Ao zq0,Ao zq0,Ao zq1]
 simp only[A8,List.nil_append]
 rw[show(p+n).toNat=p.toNat+n.toNat by omega,List.drop_take,Nat.add_sub_cancel_left]
theorem Bcb (b:List YB) (p k:Int) (hl:b.length≤4294967296):Apx (b,()) (p,()) (k,())=some (Aza b p k):=by
 unfold Apx Apm Aza
 simp only[Ai,Aj,Ad]
 by_cases h1:k<1
 ·rw[Ao h1,Ax,if_neg zq0]
 rw[Bb h1,Aq]
 by_cases h2:k>6
 ·rw[Ao h2,Ax,if_neg zq0]
 rw[Bb h2,Aq,Bdm _ _ _ hl,Al]
 by_cases h3:0≤p∧0≤k∧p+k≤b.length
 ·rw[if_pos h3,if_pos zq0]
  simp only[Bool.not_true,Aq]
  have hlen:((b.drop p.toNat).take k.toNat).length=k.toNat:=by simp;omega
  have hr:=C5 (B:=Lz) k.toNat (fun i=>(p,k,Sm (((b.drop p.toNat).take k.toNat).take i),(b.drop p.toNat).take k.toNat,(((b.drop p.toNat).take k.toNat).length:Int),(i:Int),())) (p,k,Sm ((b.drop p.toNat).take k.toNat),())
   (fun i hi=>by
    have hx:=List.getElem?_eq_getElem (show i<((b.drop p.toNat).take k.toNat).length by omega)
    unfold Lz
    simp only[Ai,Aj,Ad]
    rw[Ao zq0,Ax,Dz hx,Al,w64 (n:=(i:Int)+1) zq0,←Gs hx,Aof,Int.mul_comm 256]
    rfl)
   (by
    unfold Lz
    simp only[Ai,Aj,Ad]
    rw[Bb zq0,Aq,List.take_take,Nat.min_self])
  rw[show Az Lz (p,k,(0:Int),(b.drop p.toNat).take k.toNat,(((b.drop p.toNat).take k.toNat).length:Int),(0:Int),())=_ from hr,Al]
  simp only
  rw[w64 zq0]
 ·rw[if_neg h3,if_neg zq0]
  rfl
theorem Ahs {E:Type} {l z:List E} {n:Int} (h0:0≤n) (h1:n<l.length):idx (l++z) n=idx l n:=by
 unfold idx
 rw[if_pos h0,if_pos h0,List.getElem?_append_left zq0]
theorem Av3 {l:List YI} {i k:Nat} (h:l.length=i) (hk:i<k) (x:YI):(l++List.replicate (k-i) ((0:Int),())).set i x=(l++[x])++List.replicate (k-(i+1)) ((0:Int),()):=by
 rw[List.set_append_right _ _ zq0,h,Nat.sub_self,show k-i=(k-(i+1))+1 by omega,List.replicate_succ,List.set_cons_zero]
 simp
theorem Azb {l:List YI} {i k:Nat} (h:l.length=i) (hk:i<k):idx (l++List.replicate (k-i) ((0:Int),())) (i:Int)=some ((0:Int),()):=by
 rw[A4p,List.getElem?_append_right zq0,h,Nat.sub_self,List.getElem?_replicate,if_pos zq0]
theorem A14 (b:List YB) (hl:b.length≤4294967296): ∃r,Zq (b,())=some (r,())∧X7 (b,())=some (r,())∧(b.length=64→r.length=64):=by
 unfold Zq Om X7 Ob
 simp only[Ai,Aj,Ad]
 by_cases h:b.length=64
 ·rw[Co (by simp[h]),Co (by simp[h])]
  obtain⟨o1,o2,h1,h2,hq⟩:=Z3 (B1:=Gv) (B2:=Gt)
   (fun i d1 d2=>∃l:List YI,l.length=i∧d1=(b,l++List.replicate (64-i) ((0:Int),()),(i:Int),())∧d2=(b,l,(i:Int),()))
   (fun o1 o2=>o2.1.length=16∧o1=(o2.1++List.replicate 48 ((0:Int),()),())) 16
   (by
    rintro i d1 d2 hi ⟨l,hll,rfl,rfl⟩
    left
    unfold Gv Gt
    simp only[Ai,Aj,Ad,Ap]
    rw[Ao zq0,Ax,Ax,w64 (n:=4*(i:Int)) zq0,Bcb _ _ _ hl,Bca _ _ _ hl,Al,Al,Azb hll zq0,Al,Ao zq1,A8,w64 zq0,Int.toNat_natCast,Av3 hll zq0]
    exact⟨_,_,rfl,rfl,l++[(Aza b (4*(i:Int)) 4).1],by simp[hll],rfl,rfl⟩)
   (by
    rintro d1 d2 ⟨l,hll,rfl,rfl⟩
    unfold Gv Gt
    simp only[Ai,Aj,Ad,Ap]
    rw[Bb zq0,Aq,Aq]
    exact⟨_,_,rfl,rfl,hll,by simp only[Nat.reduceSub]⟩)
   (d1:=(b,List.replicate 64 ((0:Int),()),(0:Int),())) (d2:=(b,[],(0:Int),())) ⟨[],rfl,by simp only[Nat.sub_zero,List.nil_append,Int.natCast_zero],by simp only[Int.natCast_zero]⟩
  rw[show(64:Int).toNat=64 from rfl,h1,h2,Al,Al]
  obtain⟨hq1,rfl⟩:=hq
  obtain⟨o3,o4,h3,h4,hq⟩:=Z3 (B1:=Gw) (B2:=F5)
   (fun i d1 d2=>∃l:List YI,l.length=16+i∧d1=(l++List.replicate (64-(16+i)) ((0:Int),()),((16+i:Nat):Int),())∧d2=(l,((16+i:Nat):Int),()))
   (fun o1 o2=>o1=o2∧o2.1.length=64) 48
   (by
    rintro i d1 d2 hi ⟨l,hll,rfl,rfl⟩
    left
    obtain⟨e1,g1,_⟩:=Qo (l:=l) (n:=((16+i:Nat):Int)-15) zq0 zq0
    obtain⟨e2,g2,_⟩:=Qo (l:=l) (n:=((16+i:Nat):Int)-2) zq0 zq0
    obtain⟨e3,g3,_⟩:=Qo (l:=l) (n:=((16+i:Nat):Int)-7) zq0 zq0
    obtain⟨e4,g4,_⟩:=Qo (l:=l) (n:=((16+i:Nat):Int)-16) zq0 zq0
    unfold Gw F5
    simp only[Ai,Aj,Ad,Ap]
    rw[Ao zq0,Ax,Ax,w64 (n:=((16+i:Nat):Int)-15) zq0,w64 (n:=((16+i:Nat):Int)-2) zq0,w64 (n:=((16+i:Nat):Int)-7) zq0,w64 (n:=((16+i:Nat):Int)-16) zq0,
     w64 (n:=((16+i:Nat):Int)+1) zq0]
    rw[Ahs zq0 zq0,g1,Al,Ahs zq0 zq0,g2,Al,Aso _ _ zq4 zq4,Al,Aso _ _ zq4 zq4,Al,Aso _ _ zq4 zq4,Al,Aso _ _ zq4 zq4,Al,Ahs zq0 zq0,g3,Al,Ahs zq0 zq0,g4,Al,Azb hll zq0,Al]
    rw[Al,Al,Asp _ _ zq4 zq4,Al,Asp _ _ zq4 zq4,Al,Asp _ _ zq4 zq4,Al,Asp _ _ zq4 zq4,Al,Al,Al,Int.toNat_natCast]
    generalize IntKind.i64.wrap (((BitVec.ofInt _ _ &&& BitVec.ofInt _ (4294967295:Int)).toNat:Nat):Int)=z
    rw[Ao (by rw[List.length_singleton];omega),A8,Av3 hll zq0]
    exact⟨_,_,rfl,rfl,_,by simp[hll];omega,rfl,rfl⟩)
   (by
    rintro d1 d2 ⟨l,hll,rfl,rfl⟩
    unfold Gw F5
    simp only[Ai,Aj,Ad,Ap]
    rw[Bb zq0,Aq,Aq]
    exact⟨_,_,rfl,rfl,by simp,by omega⟩)
   (d1:=(o2.1++List.replicate 48 ((0:Int),()),(16:Int),())) (d2:=(o2.1,(16:Int),())) ⟨o2.1,hq1,by simp only[Nat.add_zero,Nat.reduceSub];rfl,rfl⟩
  rw[h3,h4]
  obtain⟨rfl,hq2⟩:=hq
  exact⟨o3.1,rfl,rfl,fun _=>hq2⟩
 ·have h': ¬((b.length:Int)=64):=by omega
  rw[Ec (by simpa using h'),Ec (by simpa using h')]
  exact⟨[],rfl,rfl,fun h2=>(h h2).elim⟩
end
end Go.Proofs.YtjlblagmjlmglaaGreat
