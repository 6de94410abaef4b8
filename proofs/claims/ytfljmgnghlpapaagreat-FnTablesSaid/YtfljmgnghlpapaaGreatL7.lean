/-
  That the program and the reference answer alike, in plain terms, and that the laws answer true.
-/
import Derived.Test.YtfljmgnghlpapaaGreatL6
namespace Go.Proofs.YtfljmgnghlpapaaGreat
open Go.RowKit
set_option linter.unusedVariables false
set_option linter.unusedSimpArgs false
set_option maxHeartbeats 4000000
noncomputable section
def m32 (x:Int):Int:=IntKind.i64.wrap ((BitVec.ofInt (IntKind.i64.bits) x &&& BitVec.ofInt (IntKind.i64.bits) (4294967295:Int)).toNat:Nat)
theorem Aco (x:Int):m32 x=x%4294967296:=by
 have h:((BitVec.ofInt (IntKind.i64.bits) x &&& BitVec.ofInt (IntKind.i64.bits) (4294967295:Int)).toNat:Int)=x%4294967296:=by
  show((BitVec.ofInt 64 x &&& BitVec.ofInt 64 (4294967295:Int)).toNat:Int)=x%4294967296
  rw[BitVec.toNat_and,BitVec.toNat_ofInt,BitVec.toNat_ofInt]
  have e:((4294967295:Int)%((2^64:Nat):Int)).toNat=2^32-1:=by decide
  rw[e,Nat.and_two_pow_sub_one_eq_mod]
  have e2:((2^64:Nat):Int)=18446744073709551616:=by decide
  rw[e2]
  omega
 unfold m32
 rw[h,w64 zq0]
theorem A0e (s:Int):IntKind.i64.wrap s%4294967296=s%4294967296:=by rw[IntKind.wrap_i64];omega
theorem X5 (s:Int):m32 (IntKind.i64.wrap s)=s%4294967296:=by rw[Aco,A0e]
theorem A0f (x:Int):0≤m32 x∧m32 x≤4294967295:=by rw[Aco];omega
theorem Awn (d t:Int):m32 (IntKind.i64.wrap (d+m32 t))=m32 (IntKind.i64.wrap (d+t)):=by rw[X5,X5,Aco];omega
theorem Awo (t u:Int):m32 (IntKind.i64.wrap (m32 t+m32 u))=m32 (IntKind.i64.wrap (t+u)):=by rw[X5,X5,Aco,Aco];omega
def Asu (x n:Int):Int:=m32 (IntKind.i64.wrap ((BitVec.ofInt (IntKind.i64.bits) (Int.fdiv (m32 x) (2^(min n.toNat IntKind.i64.bits))) ||| BitVec.ofInt (IntKind.i64.bits) (IntKind.i64.wrap (m32 x*2^(min (IntKind.i64.wrap (32-n)).toNat IntKind.i64.bits)))).toNat:Nat))
theorem Ahy (x n:YI) (h1:1≤n.1) (h2:n.1≤31):Ga x n=some (Asu x.1 n.1,()):=by
 unfold Ga Arf
 simp only[Ah,Am,Ab]
 rw[Bn zq0,Bn zq0,Ao zq0,w64 (n:=32-n.1) zq0,Ao zq0]
 simp only[A1,Bd,Asu]
 rw[w64 (n:=32-n.1) zq0]
 rfl
theorem Ahz (x n:YI) (h1:1≤n.1) (h2:n.1≤31):F9 x n=some (Asu x.1 n.1,()):=by
 unfold F9 Ai4
 simp only[Ah,Am,Ab]
 rw[Bn zq0,Bn zq0,Ao zq0,w64 (n:=32-n.1) zq0,Ao zq0]
 simp only[A1,Bd,Asu]
 rw[w64 (n:=32-n.1) zq0]
 rfl
theorem Ark (a b:YI):S6 a b=some (m32 (IntKind.i64.wrap (a.1+b.1)),()):=rfl
def Ot (l:List YB):Int:=l.foldl (fun n x=>IntKind.i64.wrap (IntKind.i64.wrap (n*256)+IntKind.i64.wrap x.1)) 0
theorem Aev (l:List YB) (x:YB):Ot (l++[x])=IntKind.i64.wrap (IntKind.i64.wrap (Ot l*256)+IntKind.i64.wrap x.1):=by simp[Ot]
def An1 (b:List YB) (p k:Int):YI×YI×(Bool×Unit):=
 if 1≤k∧k≤6∧0≤p∧p+k≤b.length then((Ot ((b.drop p.toNat).take k.toNat),()),(p+k,()),(true,()))else((0,()),(0,()),(false,()))
theorem Azm (b:List YB) (p k:Int) (hl:b.length≤4294967296):Aft (b,()) (p,()) (k,())=some (An1 b p k):=by
 unfold Aft Afd An1
 simp only[Ah,Ai,Ab]
 by_cases h1:k<1
 ·rw[Ao h1,A9,if_neg zq0]
 rw[Bn h1,A1]
 by_cases h2:k>6
 ·rw[Ao h2,A9,if_neg zq0]
 rw[Bn h2,A1]
 by_cases h3:p<0
 ·rw[Ao h3,A9,if_neg zq0]
 rw[Bn h3,A1,w64 (n:=(b.length:Int)-k) zq0]
 by_cases h4:p>(b.length:Int)-k
 ·rw[Ao h4,A9,if_neg zq0]
 rw[Bn h4,A1,if_pos zq0]
 have hr:=Co (B:=Jb) k.toNat (fun i=>(b,p,k,Ot ((b.drop p.toNat).take i),(i:Int),())) (p,k,Ot ((b.drop p.toNat).take k.toNat),())
  (fun i hi=>by
   have hlt:p.toNat+i<b.length:=by omega
   have hx:=List.getElem?_eq_getElem hlt
   have hx2:(b.drop p.toNat)[i]? =some b[p.toNat+i]:=by rw[List.getElem?_drop];exact hx
   unfold Jb
   simp only[Ah,Ai,Ab]
   rw[Ao zq0,A9,w64 (n:=p+(i:Int)) zq0,show p+(i:Int)=((p.toNat+i:Nat):Int) by omega,B7 hx,Ak,w64 (n:=(i:Int)+1) zq0,←Ew hx2,Aev]
   rfl)
  (by
   unfold Jb
   simp only[Ah,Ai,Ab]
   rw[Bn zq0,A1])
 rw[show As Jb (b,p,k,(0:Int),(0:Int),())=_ from hr,Ak]
 simp only
 rw[w64 zq0]
theorem A0g (b:List YB) (p n:Int) (hl:b.length≤4294967296):Aji (b,()) (p,()) (n,())=some (if 0≤p∧0≤n∧p+n≤b.length then(((b.drop p.toNat).take n.toNat,()),(true,()))else(([],()),(false,()))):=by
 unfold Aji Are
 simp only[Ah,Am,Ab]
 by_cases h1:p<0
 ·rw[Ao h1,A9,if_neg zq0]
 rw[Bn h1,A1]
 by_cases h2:n<0
 ·rw[Ao h2,A9,if_neg zq0]
 rw[Bn h2,A1]
 by_cases h3:p>(b.length:Int)
 ·rw[Ao h3,A9,if_neg zq0]
 rw[Bn h3,A1,w64 (n:=(b.length:Int)-p) zq0]
 by_cases h4:n>(b.length:Int)-p
 ·rw[Ao h4,A9,if_neg zq0]
 rw[Bn h4,A1,if_pos zq0,w64 (n:=p+n) zq0,Ao zq0,Ao zq0,Ao zq0,Ao zq1]
 simp only[Bd,List.nil_append]
 rw[show(p+n).toNat=p.toNat+n.toNat by omega,List.drop_take,Nat.add_sub_cancel_left]
theorem Azn (b:List YB) (p k:Int) (hl:b.length≤4294967296):Afw (b,()) (p,()) (k,())=some (An1 b p k):=by
 unfold Afw Anq An1
 simp only[Ah,Ai,Ab]
 by_cases h1:k<1
 ·rw[Ao h1,A9,if_neg zq0]
 rw[Bn h1,A1]
 by_cases h2:k>6
 ·rw[Ao h2,A9,if_neg zq0]
 rw[Bn h2,A1,A0g _ _ _ hl,Ak]
 by_cases h3:0≤p∧0≤k∧p+k≤b.length
 ·rw[if_pos h3,if_pos zq0]
  simp only[Bool.not_true,A1]
  have hlen:((b.drop p.toNat).take k.toNat).length=k.toNat:=by simp;omega
  have hr:=Co (B:=Mh) k.toNat (fun i=>(p,k,Ot (((b.drop p.toNat).take k.toNat).take i),(b.drop p.toNat).take k.toNat,(((b.drop p.toNat).take k.toNat).length:Int),(i:Int),())) (p,k,Ot ((b.drop p.toNat).take k.toNat),())
   (fun i hi=>by
    have hx:=List.getElem?_eq_getElem (show i<((b.drop p.toNat).take k.toNat).length by omega)
    unfold Mh
    simp only[Ah,Ai,Ab]
    rw[Ao zq0,A9,B7 hx,Ak,w64 (n:=(i:Int)+1) zq0,←Ew hx,Aev,Int.mul_comm 256]
    rfl)
   (by
    unfold Mh
    simp only[Ah,Ai,Ab]
    rw[Bn zq0,A1,List.take_take,Nat.min_self])
  rw[show As Mh (p,k,(0:Int),(b.drop p.toNat).take k.toNat,(((b.drop p.toNat).take k.toNat).length:Int),(0:Int),())=_ from hr,Ak]
  simp only
  rw[w64 zq0]
 ·rw[if_neg h3,if_neg zq0]
  rfl
theorem X6 {E:Type} {l z:List E} {n:Int} (h0:0≤n) (h1:n<l.length):idx (l++z) n=idx l n:=by
 unfold idx
 rw[if_pos h0,if_pos h0,List.getElem?_append_left zq0]
theorem Ak8 {l:List YI} {i k:Nat} (h:l.length=i) (hk:i<k) (x:YI):(l++List.replicate (k-i) ((0:Int),())).set i x=(l++[x])++List.replicate (k-(i+1)) ((0:Int),()):=by
 rw[List.set_append_right _ _ zq0,h,Nat.sub_self,show k-i=(k-(i+1))+1 by omega,List.replicate_succ,List.set_cons_zero]
 simp
theorem An2 {l:List YI} {i k:Nat} (h:l.length=i) (hk:i<k):idx (l++List.replicate (k-i) ((0:Int),())) (i:Int)=some ((0:Int),()):=by
 rw[Asr,List.getElem?_append_right zq0,h,Nat.sub_self,List.getElem?_replicate,if_pos zq0]
theorem Aql (b:List YB) (hl:b.length≤4294967296): ∃r,Rq (b,())=some (r,())∧Rc (b,())=some (r,())∧(b.length=64→r.length=64):=by
 unfold Rq Acj Rc Ln
 simp only[Ah,Ai,Ab]
 by_cases h:b.length=64
 ·rw[Fg (by simp[h]),Fg (by simp[h])]
  obtain⟨o1,o2,h1,h2,hq⟩:=Rr (B1:=Jg) (B2:=Fl)
   (fun i d1 d2=>∃l:List YI,l.length=i∧d1=(b,l++List.replicate (64-i) ((0:Int),()),(i:Int),())∧d2=(b,l,(i:Int),()))
   (fun o1 o2=>o2.1.length=16∧o1=(o2.1++List.replicate 48 ((0:Int),()),())) 16
   (by
    rintro i d1 d2 hi ⟨l,hll,rfl,rfl⟩
    left
    unfold Jg Fl
    simp only[Ah,Ai,Ab,Am]
    rw[Ao zq0,A9,A9,w64 (n:=4*(i:Int)) zq0,Azn _ _ _ hl,Azm _ _ _ hl,Ak,Ak,An2 hll zq0,Ak,Ao zq1,Bd,w64 zq0,Int.toNat_natCast,Ak8 hll zq0]
    exact⟨_,_,rfl,rfl,l++[(An1 b (4*(i:Int)) 4).1],by simp[hll],rfl,rfl⟩)
   (by
    rintro d1 d2 ⟨l,hll,rfl,rfl⟩
    unfold Jg Fl
    simp only[Ah,Ai,Ab,Am]
    rw[Bn zq0,A1,A1]
    exact⟨_,_,rfl,rfl,hll,by simp only[Nat.reduceSub]⟩)
   (d1:=(b,List.replicate 64 ((0:Int),()),(0:Int),())) (d2:=(b,[],(0:Int),())) ⟨[],rfl,by simp only[Nat.sub_zero,List.nil_append,Int.natCast_zero],by simp only[Int.natCast_zero]⟩
  rw[show(64:Int).toNat=64 from rfl,h1,h2,Ak,Ak]
  obtain⟨hq1,rfl⟩:=hq
  obtain⟨o3,o4,h3,h4,hq⟩:=Rr (B1:=Jh) (B2:=E5)
   (fun i d1 d2=>∃l:List YI,l.length=16+i∧d1=(l++List.replicate (64-(16+i)) ((0:Int),()),((16+i:Nat):Int),())∧d2=(l,((16+i:Nat):Int),()))
   (fun o1 o2=>o1=o2∧o2.1.length=64) 48
   (by
    rintro i d1 d2 hi ⟨l,hll,rfl,rfl⟩
    left
    obtain⟨e1,g1,_⟩:=K1 (l:=l) (n:=((16+i:Nat):Int)-15) zq0 zq0
    obtain⟨e2,g2,_⟩:=K1 (l:=l) (n:=((16+i:Nat):Int)-2) zq0 zq0
    obtain⟨e3,g3,_⟩:=K1 (l:=l) (n:=((16+i:Nat):Int)-7) zq0 zq0
    obtain⟨e4,g4,_⟩:=K1 (l:=l) (n:=((16+i:Nat):Int)-16) zq0 zq0
    unfold Jh E5
    simp only[Ah,Ai,Ab,Am]
    rw[Ao zq0,A9,A9,w64 (n:=((16+i:Nat):Int)-15) zq0,w64 (n:=((16+i:Nat):Int)-2) zq0,w64 (n:=((16+i:Nat):Int)-7) zq0,w64 (n:=((16+i:Nat):Int)-16) zq0,
     w64 (n:=((16+i:Nat):Int)+1) zq0]
    rw[X6 zq0 zq0,g1,Ak,X6 zq0 zq0,g2,Ak,Ahy _ _ zq3 zq3,Ak,Ahy _ _ zq3 zq3,Ak,Ahy _ _ zq3 zq3,Ak,Ahy _ _ zq3 zq3,Ak,X6 zq0 zq0,g3,Ak,X6 zq0 zq0,g4,Ak,An2 hll zq0,Ak]
    rw[Ak,Ak,Ahz _ _ zq3 zq3,Ak,Ahz _ _ zq3 zq3,Ak,Ahz _ _ zq3 zq3,Ak,Ahz _ _ zq3 zq3,Ak,Ak,Ak,Int.toNat_natCast]
    generalize IntKind.i64.wrap (((BitVec.ofInt _ _ &&& BitVec.ofInt _ (4294967295:Int)).toNat:Nat):Int)=z
    rw[Ao (by rw[List.length_singleton];omega),Bd,Ak8 hll zq0]
    exact⟨_,_,rfl,rfl,_,by simp[hll];omega,rfl,rfl⟩)
   (by
    rintro d1 d2 ⟨l,hll,rfl,rfl⟩
    unfold Jh E5
    simp only[Ah,Ai,Ab,Am]
    rw[Bn zq0,A1,A1]
    exact⟨_,_,rfl,rfl,by simp,by omega⟩)
   (d1:=(o2.1++List.replicate 48 ((0:Int),()),(16:Int),())) (d2:=(o2.1,(16:Int),())) ⟨o2.1,hq1,by simp only[Nat.add_zero,Nat.reduceSub];rfl,rfl⟩
  rw[h3,h4]
  obtain⟨rfl,hq2⟩:=hq
  exact⟨o3.1,rfl,rfl,fun _=>hq2⟩
 ·have h': ¬((b.length:Int)=64):=by omega
  rw[Gj (by simpa using h'),Gj (by simpa using h')]
  exact⟨[],rfl,rfl,fun h2=>(h h2).elim⟩
end
end Go.Proofs.YtfljmgnghlpapaaGreat
