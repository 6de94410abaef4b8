/-
  That the program and the reference answer alike, in plain terms, and that the laws answer true.
-/
import Derived.Test.YtfljmgnghlpapaaGreatL6
namespace Go.Proofs.YtfljmgnghlpapaaGreat
open Go.RowKit
set_option linter.unusedVariables false
set_option linter.unusedSimpArgs false
set_option maxHeartbeats 4000000
noncomputable section
def m32 (x:Int):Int:=IntKind.i64.wrap ((BitVec.ofInt (IntKind.i64.bits) x &&& BitVec.ofInt (IntKind.i64.bits) (4294967295:Int)).toNat:Nat)
theorem Amq (x:Int):m32 x=x%4294967296:=by
 have h:((BitVec.ofInt (IntKind.i64.bits) x &&& BitVec.ofInt (IntKind.i64.bits) (4294967295:Int)).toNat:Int)=x%4294967296:=by
  show((BitVec.ofInt 64 x &&& BitVec.ofInt 64 (4294967295:Int)).toNat:Int)=x%4294967296
  rw[BitVec.toNat_and,BitVec.toNat_ofInt,BitVec.toNat_ofInt]
  have e:((4294967295:Int)%((2^64:Nat):Int)).toNat=2^32-1:=by decide
  rw[e,Nat.and_two_pow_sub_one_eq_mod]
  have e2:((2^64:Nat):Int)=18446744073709551616:=by decide
  rw[e2]
  omega
 unfold m32
 rw[h,w64 zq0]
theorem Bhl (s:Int):IntKind.i64.wrap s%4294967296=s%4294967296:=by rw[IntKind.wrap_i64];omega
theorem Ah1 (s:Int):m32 (IntKind.i64.wrap s)=s%4294967296:=by rw[Amq,Bhl]
theorem Bhm (x:Int):0≤m32 x∧m32 x≤4294967295:=by rw[Amq];omega
theorem Bdb (d t:Int):m32 (IntKind.i64.wrap (d+m32 t))=m32 (IntKind.i64.wrap (d+t)):=by rw[Ah1,Ah1,Amq];omega
theorem Bdc (t u:Int):m32 (IntKind.i64.wrap (m32 t+m32 u))=m32 (IntKind.i64.wrap (t+u)):=by rw[Ah1,Ah1,Amq,Amq];omega
def A77 (x n:Int):Int:=m32 (IntKind.i64.wrap ((BitVec.ofInt (IntKind.i64.bits) (Int.fdiv (m32 x) (2^(min n.toNat IntKind.i64.bits))) ||| BitVec.ofInt (IntKind.i64.bits) (IntKind.i64.wrap (m32 x*2^(min (IntKind.i64.wrap (32-n)).toNat IntKind.i64.bits)))).toNat:Nat))
theorem At5 (x n:YI) (h1:1≤n.1) (h2:n.1≤31):Ii x n=some (A77 x.1 n.1,()):=by
 unfold Ii Avo
 simp only[Ac,Al,Ab]
 rw[Bj zq0,Bj zq0,An zq0,w64 (n:=32-n.1) zq0,An zq0]
 simp only[Au,A8,A77]
 rw[w64 (n:=32-n.1) zq0]
 rfl
theorem At6 (x n:YI) (h1:1≤n.1) (h2:n.1≤31):Ig x n=some (A77 x.1 n.1,()):=by
 unfold Ig Au7
 simp only[Ac,Al,Ab]
 rw[Bj zq0,Bj zq0,An zq0,w64 (n:=32-n.1) zq0,An zq0]
 simp only[Au,A8,A77]
 rw[w64 (n:=32-n.1) zq0]
 rfl
theorem A6l (a b:YI):Aak a b=some (m32 (IntKind.i64.wrap (a.1+b.1)),()):=rfl
def Tx (l:List YB):Int:=l.foldl (fun n x=>IntKind.i64.wrap (IntKind.i64.wrap (n*256)+IntKind.i64.wrap x.1)) 0
theorem Aps (l:List YB) (x:YB):Tx (l++[x])=IntKind.i64.wrap (IntKind.i64.wrap (Tx l*256)+IntKind.i64.wrap x.1):=by simp[Tx]
def A19 (b:List YB) (p k:Int):YI×YI×(Bool×Unit):=
 if 1≤k∧k≤6∧0≤p∧p+k≤b.length then((Tx ((b.drop p.toNat).take k.toNat),()),(p+k,()),(true,()))else((0,()),(0,()),(false,()))
theorem Bgo (b:List YB) (p k:Int) (hl:b.length≤4294967296):Aq4 (b,()) (p,()) (k,())=some (A19 b p k):=by
 unfold Aq4 Ap8 A19
 simp only[Ac,Ae,Ab]
 by_cases h1:k<1
 ·rw[An h1,A4,if_neg zq0]
 rw[Bj h1,Au]
 by_cases h2:k>6
 ·rw[An h2,A4,if_neg zq0]
 rw[Bj h2,Au]
 by_cases h3:p<0
 ·rw[An h3,A4,if_neg zq0]
 rw[Bj h3,Au,w64 (n:=(b.length:Int)-k) zq0]
 by_cases h4:p>(b.length:Int)-k
 ·rw[An h4,A4,if_neg zq0]
 rw[Bj h4,Au,if_pos zq0]
 have hr:=B8 (B:=Mq) k.toNat (fun i=>(b,p,k,Tx ((b.drop p.toNat).take i),(i:Int),())) (p,k,Tx ((b.drop p.toNat).take k.toNat),())
  (fun i hi=>by
   have hlt:p.toNat+i<b.length:=by omega
   have hx:=List.getElem?_eq_getElem hlt
   have hx2:(b.drop p.toNat)[i]? =some b[p.toNat+i]:=by rw[List.getElem?_drop];exact hx
   unfold Mq
   simp only[Ac,Ae,Ab]
   rw[An zq0,A4,w64 (n:=p+(i:Int)) zq0,show p+(i:Int)=((p.toNat+i:Nat):Int) by omega,Bk hx,Ai,w64 (n:=(i:Int)+1) zq0,←Dg hx2,Aps]
   rfl)
  (by
   unfold Mq
   simp only[Ac,Ae,Ab]
   rw[Bj zq0,Au])
 rw[show As Mq (b,p,k,(0:Int),(0:Int),())=_ from hr,Ai]
 simp only
 rw[w64 zq0]
theorem Bhn (b:List YB) (p n:Int) (hl:b.length≤4294967296):Av0 (b,()) (p,()) (n,())=some (if 0≤p∧0≤n∧p+n≤b.length then(((b.drop p.toNat).take n.toNat,()),(true,()))else(([],()),(false,()))):=by
 unfold Av0 Avm
 simp only[Ac,Al,Ab]
 by_cases h1:p<0
 ·rw[An h1,A4,if_neg zq0]
 rw[Bj h1,Au]
 by_cases h2:n<0
 ·rw[An h2,A4,if_neg zq0]
 rw[Bj h2,Au]
 by_cases h3:p>(b.length:Int)
 ·rw[An h3,A4,if_neg zq0]
 rw[Bj h3,Au,w64 (n:=(b.length:Int)-p) zq0]
 by_cases h4:n>(b.length:Int)-p
 ·rw[An h4,A4,if_neg zq0]
 rw[Bj h4,Au,if_pos zq0,w64 (n:=p+n) zq0,An zq0,An zq0,An zq0,An zq1]
 simp only[A8,List.nil_append]
 rw[show(p+n).toNat=p.toNat+n.toNat by omega,List.drop_take,Nat.add_sub_cancel_left]
theorem Bgp (b:List YB) (p k:Int) (hl:b.length≤4294967296):Aq7 (b,()) (p,()) (k,())=some (A19 b p k):=by
 unfold Aq7 Aqp A19
 simp only[Ac,Ae,Ab]
 by_cases h1:k<1
 ·rw[An h1,A4,if_neg zq0]
 rw[Bj h1,Au]
 by_cases h2:k>6
 ·rw[An h2,A4,if_neg zq0]
 rw[Bj h2,Au,Bhn _ _ _ hl,Ai]
 by_cases h3:0≤p∧0≤k∧p+k≤b.length
 ·rw[if_pos h3,if_pos zq0]
  simp only[Bool.not_true,Au]
  have hlen:((b.drop p.toNat).take k.toNat).length=k.toNat:=by simp;omega
  have hr:=B8 (B:=Mv) k.toNat (fun i=>(p,k,Tx (((b.drop p.toNat).take k.toNat).take i),(b.drop p.toNat).take k.toNat,(((b.drop p.toNat).take k.toNat).length:Int),(i:Int),())) (p,k,Tx ((b.drop p.toNat).take k.toNat),())
   (fun i hi=>by
    have hx:=List.getElem?_eq_getElem (show i<((b.drop p.toNat).take k.toNat).length by omega)
    unfold Mv
    simp only[Ac,Ae,Ab]
    rw[An zq0,A4,Bk hx,Ai,w64 (n:=(i:Int)+1) zq0,←Dg hx,Aps,Int.mul_comm 256]
    rfl)
   (by
    unfold Mv
    simp only[Ac,Ae,Ab]
    rw[Bj zq0,Au,List.take_take,Nat.min_self])
  rw[show As Mv (p,k,(0:Int),(b.drop p.toNat).take k.toNat,(((b.drop p.toNat).take k.toNat).length:Int),(0:Int),())=_ from hr,Ai]
  simp only
  rw[w64 zq0]
 ·rw[if_neg h3,if_neg zq0]
  rfl
theorem Ah2 {E:Type} {l z:List E} {n:Int} (h0:0≤n) (h1:n<l.length):idx (l++z) n=idx l n:=by
 unfold idx
 rw[if_pos h0,if_pos h0,List.getElem?_append_left zq0]
theorem Ayb {l:List YI} {i k:Nat} (h:l.length=i) (hk:i<k) (x:YI):(l++List.replicate (k-i) ((0:Int),())).set i x=(l++[x])++List.replicate (k-(i+1)) ((0:Int),()):=by
 rw[List.set_append_right _ _ zq0,h,Nat.sub_self,show k-i=(k-(i+1))+1 by omega,List.replicate_succ,List.set_cons_zero]
 simp
theorem A2a {l:List YI} {i k:Nat} (h:l.length=i) (hk:i<k):idx (l++List.replicate (k-i) ((0:Int),())) (i:Int)=some ((0:Int),()):=by
 rw[A72,List.getElem?_append_right zq0,h,Nat.sub_self,List.getElem?_replicate,if_pos zq0]
theorem A5k (b:List YB) (hl:b.length≤4294967296): ∃r,Xr (b,())=some (r,())∧Xd (b,())=some (r,())∧(b.length=64→r.length=64):=by
 unfold Xr P0 Xd Pn
 simp only[Ac,Ae,Ab]
 by_cases h:b.length=64
 ·rw[Em (by simp[h]),Em (by simp[h])]
  obtain⟨o1,o2,h1,h2,hq⟩:=Rt (B1:=Hl) (B2:=Hf)
   (fun i d1 d2=>∃l:List YI,l.length=i∧d1=(b,l++List.replicate (64-i) ((0:Int),()),(i:Int),())∧d2=(b,l,(i:Int),()))
   (fun o1 o2=>o2.1.length=16∧o1=(o2.1++List.replicate 48 ((0:Int),()),())) 16
   (by
    rintro i d1 d2 hi ⟨l,hll,rfl,rfl⟩
    left
    unfold Hl Hf
    simp only[Ac,Ae,Ab,Al]
    rw[An zq0,A4,A4,w64 (n:=4*(i:Int)) zq0,Bgp _ _ _ hl,Bgo _ _ _ hl,Ai,Ai,A2a hll zq0,Ai,An zq1,A8,w64 zq0,Int.toNat_natCast,Ayb hll zq0]
    exact⟨_,_,rfl,rfl,l++[(A19 b (4*(i:Int)) 4).1],by simp[hll],rfl,rfl⟩)
   (by
    rintro d1 d2 ⟨l,hll,rfl,rfl⟩
    unfold Hl Hf
    simp only[Ac,Ae,Ab,Al]
    rw[Bj zq0,Au,Au]
    exact⟨_,_,rfl,rfl,hll,by simp only[Nat.reduceSub]⟩)
   (d1:=(b,List.replicate 64 ((0:Int),()),(0:Int),())) (d2:=(b,[],(0:Int),())) ⟨[],rfl,by simp only[Nat.sub_zero,List.nil_append,Int.natCast_zero],by simp only[Int.natCast_zero]⟩
  rw[show(64:Int).toNat=64 from rfl,h1,h2,Ai,Ai]
  obtain⟨hq1,rfl⟩:=hq
  obtain⟨o3,o4,h3,h4,hq⟩:=Rt (B1:=Hm) (B2:=Gj)
   (fun i d1 d2=>∃l:List YI,l.length=16+i∧d1=(l++List.replicate (64-(16+i)) ((0:Int),()),((16+i:Nat):Int),())∧d2=(l,((16+i:Nat):Int),()))
   (fun o1 o2=>o1=o2∧o2.1.length=64) 48
   (by
    rintro i d1 d2 hi ⟨l,hll,rfl,rfl⟩
    left
    obtain⟨e1,g1,_⟩:=Ru (l:=l) (n:=((16+i:Nat):Int)-15) zq0 zq0
    obtain⟨e2,g2,_⟩:=Ru (l:=l) (n:=((16+i:Nat):Int)-2) zq0 zq0
    obtain⟨e3,g3,_⟩:=Ru (l:=l) (n:=((16+i:Nat):Int)-7) zq0 zq0
    obtain⟨e4,g4,_⟩:=Ru (l:=l) (n:=((16+i:Nat):Int)-16) zq0 zq0
    unfold Hm Gj
    simp only[Ac,Ae,Ab,Al]
    rw[An zq0,A4,A4,w64 (n:=((16+i:Nat):Int)-15) zq0,w64 (n:=((16+i:Nat):Int)-2) zq0,w64 (n:=((16+i:Nat):Int)-7) zq0,w64 (n:=((16+i:Nat):Int)-16) zq0,
     w64 (n:=((16+i:Nat):Int)+1) zq0]
    rw[Ah2 zq0 zq0,g1,Ai,Ah2 zq0 zq0,g2,Ai,At5 _ _ zq4 zq4,Ai,At5 _ _ zq4 zq4,Ai,At5 _ _ zq4 zq4,Ai,At5 _ _ zq4 zq4,Ai,Ah2 zq0 zq0,g3,Ai,Ah2 zq0 zq0,g4,Ai,A2a hll zq0,Ai]
    rw[Ai,Ai,At6 _ _ zq4 zq4,Ai,At6 _ _ zq4 zq4,Ai,At6 _ _ zq4 zq4,Ai,At6 _ _ zq4 zq4,Ai,Ai,Ai,Int.toNat_natCast]
    generalize IntKind.i64.wrap (((BitVec.ofInt _ _ &&& BitVec.ofInt _ (4294967295:Int)).toNat:Nat):Int)=z
    rw[An (by rw[List.length_singleton];omega),A8,Ayb hll zq0]
    exact⟨_,_,rfl,rfl,_,by simp[hll];omega,rfl,rfl⟩)
   (by
    rintro d1 d2 ⟨l,hll,rfl,rfl⟩
    unfold Hm Gj
    simp only[Ac,Ae,Ab,Al]
    rw[Bj zq0,Au,Au]
    exact⟨_,_,rfl,rfl,by simp,by omega⟩)
   (d1:=(o2.1++List.replicate 48 ((0:Int),()),(16:Int),())) (d2:=(o2.1,(16:Int),())) ⟨o2.1,hq1,by simp only[Nat.add_zero,Nat.reduceSub];rfl,rfl⟩
  rw[h3,h4]
  obtain⟨rfl,hq2⟩:=hq
  exact⟨o3.1,rfl,rfl,fun _=>hq2⟩
 ·have h': ¬((b.length:Int)=64):=by omega
  rw[Fu (by simpa using h'),Fu (by simpa using h')]
  exact⟨[],rfl,rfl,fun h2=>(h h2).elim⟩
end
end Go.Proofs.YtfljmgnghlpapaaGreat
