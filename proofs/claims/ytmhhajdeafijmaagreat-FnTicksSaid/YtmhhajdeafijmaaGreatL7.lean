/-
  That the program and the reference answer alike, in plain terms, and that the laws answer true.
-/
import Derived.Test.YtmhhajdeafijmaaGreatL6
namespace Go.Proofs.YtmhhajdeafijmaaGreat
open Go.RowKit
set_option linter.unusedVariables false
set_option linter.unusedSimpArgs false
set_option maxHeartbeats 4000000
noncomputable section
def m32 (x:Int):Int:=IntKind.i64.wrap ((BitVec.ofInt (IntKind.i64.bits) x &&& BitVec.ofInt (IntKind.i64.bits) (4294967295:Int)).toNat:Nat)
theorem Alw (x:Int):m32 x=x%4294967296:=by
 have h:((BitVec.ofInt (IntKind.i64.bits) x &&& BitVec.ofInt (IntKind.i64.bits) (4294967295:Int)).toNat:Int)=x%4294967296:=by
  show((BitVec.ofInt 64 x &&& BitVec.ofInt 64 (4294967295:Int)).toNat:Int)=x%4294967296
  rw[BitVec.toNat_and,BitVec.toNat_ofInt,BitVec.toNat_ofInt]
  have e:((4294967295:Int)%((2^64:Nat):Int)).toNat=2^32-1:=by decide
  rw[e,Nat.and_two_pow_sub_one_eq_mod]
  have e2:((2^64:Nat):Int)=18446744073709551616:=by decide
  rw[e2]
  omega
 unfold m32
 rw[h,w64 zq0]
theorem Bc2 (s:Int):IntKind.i64.wrap s%4294967296=s%4294967296:=by rw[IntKind.wrap_i64];omega
theorem Ah9 (s:Int):m32 (IntKind.i64.wrap s)=s%4294967296:=by rw[Alw,Bc2]
theorem Bc3 (x:Int):0≤m32 x∧m32 x≤4294967295:=by rw[Alw];omega
theorem A8m (d t:Int):m32 (IntKind.i64.wrap (d+m32 t))=m32 (IntKind.i64.wrap (d+t)):=by rw[Ah9,Ah9,Alw];omega
theorem A8n (t u:Int):m32 (IntKind.i64.wrap (m32 t+m32 u))=m32 (IntKind.i64.wrap (t+u)):=by rw[Ah9,Ah9,Alw,Alw];omega
def A4b (x n:Int):Int:=m32 (IntKind.i64.wrap ((BitVec.ofInt (IntKind.i64.bits) (Int.fdiv (m32 x) (2^(min n.toNat IntKind.i64.bits))) ||| BitVec.ofInt (IntKind.i64.bits) (IntKind.i64.wrap (m32 x*2^(min (IntKind.i64.wrap (32-n)).toNat IntKind.i64.bits)))).toNat:Nat))
theorem Asm (x n:YI) (h1:1≤n.1) (h2:n.1≤31):H1 x n=some (A4b x.1 n.1,()):=by
 unfold H1 Atx
 simp only[Ag,Ao,Ad]
 rw[A8 zq0,A8 zq0,Am zq0,w64 (n:=32-n.1) zq0,Am zq0]
 simp only[An,A5,A4b]
 rw[w64 (n:=32-n.1) zq0]
 rfl
theorem Asn (x n:YI) (h1:1≤n.1) (h2:n.1≤31):Hz x n=some (A4b x.1 n.1,()):=by
 unfold Hz Atn
 simp only[Ag,Ao,Ad]
 rw[A8 zq0,A8 zq0,Am zq0,w64 (n:=32-n.1) zq0,Am zq0]
 simp only[An,A5,A4b]
 rw[w64 (n:=32-n.1) zq0]
 rfl
theorem A2y (a b:YI):Abp a b=some (m32 (IntKind.i64.wrap (a.1+b.1)),()):=rfl
def S9 (l:List YB):Int:=l.foldl (fun n x=>IntKind.i64.wrap (IntKind.i64.wrap (n*256)+IntKind.i64.wrap x.1)) 0
theorem Aot (l:List YB) (x:YB):S9 (l++[x])=IntKind.i64.wrap (IntKind.i64.wrap (S9 l*256)+IntKind.i64.wrap x.1):=by simp[S9]
def Ay2 (b:List YB) (p k:Int):YI×YI×(Bool×Unit):=
 if 1≤k∧k≤6∧0≤p∧p+k≤b.length then((S9 ((b.drop p.toNat).take k.toNat),()),(p+k,()),(true,()))else((0,()),(0,()),(false,()))
theorem Bbu (b:List YB) (p k:Int) (hl:b.length≤4294967296):Ap1 (b,()) (p,()) (k,())=some (Ay2 b p k):=by
 unfold Ap1 Apf Ay2
 simp only[Ag,Ai,Ad]
 by_cases h1:k<1
 ·rw[Am h1,Aw,if_neg zq0]
 rw[A8 h1,An]
 by_cases h2:k>6
 ·rw[Am h2,Aw,if_neg zq0]
 rw[A8 h2,An]
 by_cases h3:p<0
 ·rw[Am h3,Aw,if_neg zq0]
 rw[A8 h3,An,w64 (n:=(b.length:Int)-k) zq0]
 by_cases h4:p>(b.length:Int)-k
 ·rw[Am h4,Aw,if_neg zq0]
 rw[A8 h4,An,if_pos zq0]
 have hr:=Cq (B:=Lz) k.toNat (fun i=>(b,p,k,S9 ((b.drop p.toNat).take i),(i:Int),())) (p,k,S9 ((b.drop p.toNat).take k.toNat),())
  (fun i hi=>by
   have hlt:p.toNat+i<b.length:=by omega
   have hx:=List.getElem?_eq_getElem hlt
   have hx2:(b.drop p.toNat)[i]? =some b[p.toNat+i]:=by rw[List.getElem?_drop];exact hx
   unfold Lz
   simp only[Ag,Ai,Ad]
   rw[Am zq0,Aw,w64 (n:=p+(i:Int)) zq0,show p+(i:Int)=((p.toNat+i:Nat):Int) by omega,Dl hx,Aj,w64 (n:=(i:Int)+1) zq0,←G8 hx2,Aot]
   rfl)
  (by
   unfold Lz
   simp only[Ag,Ai,Ad]
   rw[A8 zq0,An])
 rw[show Ay Lz (b,p,k,(0:Int),(0:Int),())=_ from hr,Aj]
 simp only
 rw[w64 zq0]
theorem Bc4 (b:List YB) (p n:Int) (hl:b.length≤4294967296):At7 (b,()) (p,()) (n,())=some (if 0≤p∧0≤n∧p+n≤b.length then(((b.drop p.toNat).take n.toNat,()),(true,()))else(([],()),(false,()))):=by
 unfold At7 Atv
 simp only[Ag,Ao,Ad]
 by_cases h1:p<0
 ·rw[Am h1,Aw,if_neg zq0]
 rw[A8 h1,An]
 by_cases h2:n<0
 ·rw[Am h2,Aw,if_neg zq0]
 rw[A8 h2,An]
 by_cases h3:p>(b.length:Int)
 ·rw[Am h3,Aw,if_neg zq0]
 rw[A8 h3,An,w64 (n:=(b.length:Int)-p) zq0]
 by_cases h4:n>(b.length:Int)-p
 ·rw[Am h4,Aw,if_neg zq0]
 rw[A8 h4,An,if_pos zq0,w64 (n:=p+n) zq0,Am zq0,Am zq0,Am zq0,Am zq1]
 simp only[A5,List.nil_append]
 rw[show(p+n).toNat=p.toNat+n.toNat by omega,List.drop_take,Nat.add_sub_cancel_left]
theorem Bbv (b:List YB) (p k:Int) (hl:b.length≤4294967296):Ap4 (b,()) (p,()) (k,())=some (Ay2 b p k):=by
 unfold Ap4 Aps Ay2
 simp only[Ag,Ai,Ad]
 by_cases h1:k<1
 ·rw[Am h1,Aw,if_neg zq0]
 rw[A8 h1,An]
 by_cases h2:k>6
 ·rw[Am h2,Aw,if_neg zq0]
 rw[A8 h2,An,Bc4 _ _ _ hl,Aj]
 by_cases h3:0≤p∧0≤k∧p+k≤b.length
 ·rw[if_pos h3,if_pos zq0]
  simp only[Bool.not_true,An]
  have hlen:((b.drop p.toNat).take k.toNat).length=k.toNat:=by simp;omega
  have hr:=Cq (B:=L4) k.toNat (fun i=>(p,k,S9 (((b.drop p.toNat).take k.toNat).take i),(b.drop p.toNat).take k.toNat,(((b.drop p.toNat).take k.toNat).length:Int),(i:Int),())) (p,k,S9 ((b.drop p.toNat).take k.toNat),())
   (fun i hi=>by
    have hx:=List.getElem?_eq_getElem (show i<((b.drop p.toNat).take k.toNat).length by omega)
    unfold L4
    simp only[Ag,Ai,Ad]
    rw[Am zq0,Aw,Dl hx,Aj,w64 (n:=(i:Int)+1) zq0,←G8 hx,Aot,Int.mul_comm 256]
    rfl)
   (by
    unfold L4
    simp only[Ag,Ai,Ad]
    rw[A8 zq0,An,List.take_take,Nat.min_self])
  rw[show Ay L4 (p,k,(0:Int),(b.drop p.toNat).take k.toNat,(((b.drop p.toNat).take k.toNat).length:Int),(0:Int),())=_ from hr,Aj]
  simp only
  rw[w64 zq0]
 ·rw[if_neg h3,if_neg zq0]
  rfl
theorem Aia {E:Type} {l z:List E} {n:Int} (h0:0≤n) (h1:n<l.length):idx (l++z) n=idx l n:=by
 unfold idx
 rw[if_pos h0,if_pos h0,List.getElem?_append_left zq0]
theorem Avv {l:List YI} {i k:Nat} (h:l.length=i) (hk:i<k) (x:YI):(l++List.replicate (k-i) ((0:Int),())).set i x=(l++[x])++List.replicate (k-(i+1)) ((0:Int),()):=by
 rw[List.set_append_right _ _ zq0,h,Nat.sub_self,show k-i=(k-(i+1))+1 by omega,List.replicate_succ,List.set_cons_zero]
 simp
theorem Ay3 {l:List YI} {i k:Nat} (h:l.length=i) (hk:i<k):idx (l++List.replicate (k-i) ((0:Int),())) (i:Int)=some ((0:Int),()):=by
 rw[A39,List.getElem?_append_right zq0,h,Nat.sub_self,List.getElem?_replicate,if_pos zq0]
theorem A1v (b:List YB) (hl:b.length≤4294967296): ∃r,Aaf (b,())=some (r,())∧Zy (b,())=some (r,())∧(b.length=64→r.length=64):=by
 unfold Aaf O9 Zy Ow
 simp only[Ag,Ai,Ad]
 by_cases h:b.length=64
 ·rw[Cp (by simp[h]),Cp (by simp[h])]
  obtain⟨o1,o2,h1,h2,hq⟩:=Aaq (B1:=Hf) (B2:=Hd)
   (fun i d1 d2=>∃l:List YI,l.length=i∧d1=(b,l++List.replicate (64-i) ((0:Int),()),(i:Int),())∧d2=(b,l,(i:Int),()))
   (fun o1 o2=>o2.1.length=16∧o1=(o2.1++List.replicate 48 ((0:Int),()),())) 16
   (by
    rintro i d1 d2 hi ⟨l,hll,rfl,rfl⟩
    left
    unfold Hf Hd
    simp only[Ag,Ai,Ad,Ao]
    rw[Am zq0,Aw,Aw,w64 (n:=4*(i:Int)) zq0,Bbv _ _ _ hl,Bbu _ _ _ hl,Aj,Aj,Ay3 hll zq0,Aj,Am zq1,A5,w64 zq0,Int.toNat_natCast,Avv hll zq0]
    exact⟨_,_,rfl,rfl,l++[(Ay2 b (4*(i:Int)) 4).1],by simp[hll],rfl,rfl⟩)
   (by
    rintro d1 d2 ⟨l,hll,rfl,rfl⟩
    unfold Hf Hd
    simp only[Ag,Ai,Ad,Ao]
    rw[A8 zq0,An,An]
    exact⟨_,_,rfl,rfl,hll,by simp only[Nat.reduceSub]⟩)
   (d1:=(b,List.replicate 64 ((0:Int),()),(0:Int),())) (d2:=(b,[],(0:Int),())) ⟨[],rfl,by simp only[Nat.sub_zero,List.nil_append,Int.natCast_zero],by simp only[Int.natCast_zero]⟩
  rw[show(64:Int).toNat=64 from rfl,h1,h2,Aj,Aj]
  obtain⟨hq1,rfl⟩:=hq
  obtain⟨o3,o4,h3,h4,hq⟩:=Aaq (B1:=Hg) (B2:=Ge)
   (fun i d1 d2=>∃l:List YI,l.length=16+i∧d1=(l++List.replicate (64-(16+i)) ((0:Int),()),((16+i:Nat):Int),())∧d2=(l,((16+i:Nat):Int),()))
   (fun o1 o2=>o1=o2∧o2.1.length=64) 48
   (by
    rintro i d1 d2 hi ⟨l,hll,rfl,rfl⟩
    left
    obtain⟨e1,g1,_⟩:=Ra (l:=l) (n:=((16+i:Nat):Int)-15) zq0 zq0
    obtain⟨e2,g2,_⟩:=Ra (l:=l) (n:=((16+i:Nat):Int)-2) zq0 zq0
    obtain⟨e3,g3,_⟩:=Ra (l:=l) (n:=((16+i:Nat):Int)-7) zq0 zq0
    obtain⟨e4,g4,_⟩:=Ra (l:=l) (n:=((16+i:Nat):Int)-16) zq0 zq0
    unfold Hg Ge
    simp only[Ag,Ai,Ad,Ao]
    rw[Am zq0,Aw,Aw,w64 (n:=((16+i:Nat):Int)-15) zq0,w64 (n:=((16+i:Nat):Int)-2) zq0,w64 (n:=((16+i:Nat):Int)-7) zq0,w64 (n:=((16+i:Nat):Int)-16) zq0,
     w64 (n:=((16+i:Nat):Int)+1) zq0]
    rw[Aia zq0 zq0,g1,Aj,Aia zq0 zq0,g2,Aj,Asm _ _ zq4 zq4,Aj,Asm _ _ zq4 zq4,Aj,Asm _ _ zq4 zq4,Aj,Asm _ _ zq4 zq4,Aj,Aia zq0 zq0,g3,Aj,Aia zq0 zq0,g4,Aj,Ay3 hll zq0,Aj]
    rw[Aj,Aj,Asn _ _ zq4 zq4,Aj,Asn _ _ zq4 zq4,Aj,Asn _ _ zq4 zq4,Aj,Asn _ _ zq4 zq4,Aj,Aj,Aj,Int.toNat_natCast]
    generalize IntKind.i64.wrap (((BitVec.ofInt _ _ &&& BitVec.ofInt _ (4294967295:Int)).toNat:Nat):Int)=z
    rw[Am (by rw[List.length_singleton];omega),A5,Avv hll zq0]
    exact⟨_,_,rfl,rfl,_,by simp[hll];omega,rfl,rfl⟩)
   (by
    rintro d1 d2 ⟨l,hll,rfl,rfl⟩
    unfold Hg Ge
    simp only[Ag,Ai,Ad,Ao]
    rw[A8 zq0,An,An]
    exact⟨_,_,rfl,rfl,by simp,by omega⟩)
   (d1:=(o2.1++List.replicate 48 ((0:Int),()),(16:Int),())) (d2:=(o2.1,(16:Int),())) ⟨o2.1,hq1,by simp only[Nat.add_zero,Nat.reduceSub];rfl,rfl⟩
  rw[h3,h4]
  obtain⟨rfl,hq2⟩:=hq
  exact⟨o3.1,rfl,rfl,fun _=>hq2⟩
 ·have h': ¬((b.length:Int)=64):=by omega
  rw[Ej (by simpa using h'),Ej (by simpa using h')]
  exact⟨[],rfl,rfl,fun h2=>(h h2).elim⟩
end
end Go.Proofs.YtmhhajdeafijmaaGreat
