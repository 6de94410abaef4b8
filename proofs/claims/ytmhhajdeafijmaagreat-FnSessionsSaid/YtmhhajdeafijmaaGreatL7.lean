/-
  That the program and the reference answer alike, in plain terms, and that the laws answer true.
-/
import Derived.Test.YtmhhajdeafijmaaGreatL6
namespace Go.Proofs.YtmhhajdeafijmaaGreat
open Go.RowKit
set_option linter.unusedVariables false
set_option linter.unusedSimpArgs false
set_option maxHeartbeats 4000000
noncomputable section
def m32 (x:Int):Int:=IntKind.i64.wrap ((BitVec.ofInt (IntKind.i64.bits) x &&& BitVec.ofInt (IntKind.i64.bits) (4294967295:Int)).toNat:Nat)
theorem Ah8 (x:Int):m32 x=x%4294967296:=by
 have h:((BitVec.ofInt (IntKind.i64.bits) x &&& BitVec.ofInt (IntKind.i64.bits) (4294967295:Int)).toNat:Int)=x%4294967296:=by
  show((BitVec.ofInt 64 x &&& BitVec.ofInt 64 (4294967295:Int)).toNat:Int)=x%4294967296
  rw[BitVec.toNat_and,BitVec.toNat_ofInt,BitVec.toNat_ofInt]
  have e:((4294967295:Int)%((2^64:Nat):Int)).toNat=2^32-1:=by decide
  rw[e,Nat.and_two_pow_sub_one_eq_mod]
  have e2:((2^64:Nat):Int)=18446744073709551616:=by decide
  rw[e2]
  omega
 unfold m32
 rw[h,w64 zq0]
theorem A8r (s:Int):IntKind.i64.wrap s%4294967296=s%4294967296:=by rw[IntKind.wrap_i64];omega
theorem Aew (s:Int):m32 (IntKind.i64.wrap s)=s%4294967296:=by rw[Ah8,A8r]
theorem A8s (x:Int):0≤m32 x∧m32 x≤4294967295:=by rw[Ah8];omega
theorem A40 (d t:Int):m32 (IntKind.i64.wrap (d+m32 t))=m32 (IntKind.i64.wrap (d+t)):=by rw[Aew,Aew,Ah8];omega
theorem A41 (t u:Int):m32 (IntKind.i64.wrap (m32 t+m32 u))=m32 (IntKind.i64.wrap (t+u)):=by rw[Aew,Aew,Ah8,Ah8];omega
def A0q (x n:Int):Int:=m32 (IntKind.i64.wrap ((BitVec.ofInt (IntKind.i64.bits) (Int.fdiv (m32 x) (2^(min n.toNat IntKind.i64.bits))) ||| BitVec.ofInt (IntKind.i64.bits) (IntKind.i64.wrap (m32 x*2^(min (IntKind.i64.wrap (32-n)).toNat IntKind.i64.bits)))).toNat:Nat))
theorem Aof (x n:YI) (h1:1≤n.1) (h2:n.1≤31):Id x n=some (A0q x.1 n.1,()):=by
 unfold Id Apr
 simp only[Ae,Aj,Ac]
 rw[Bh zq0,Bh zq0,Ak zq0,w64 (n:=32-n.1) zq0,Ak zq0]
 simp only[Am,A8,A0q]
 rw[w64 (n:=32-n.1) zq0]
 rfl
theorem Aog (x n:YI) (h1:1≤n.1) (h2:n.1≤31):H8 x n=some (A0q x.1 n.1,()):=by
 unfold H8 Apk
 simp only[Ae,Aj,Ac]
 rw[Bh zq0,Bh zq0,Ak zq0,w64 (n:=32-n.1) zq0,Ak zq0]
 simp only[Am,A8,A0q]
 rw[w64 (n:=32-n.1) zq0]
 rfl
theorem Ay5 (a b:YI):Xl a b=some (m32 (IntKind.i64.wrap (a.1+b.1)),()):=rfl
def Tj (l:List YB):Int:=l.foldl (fun n x=>IntKind.i64.wrap (IntKind.i64.wrap (n*256)+IntKind.i64.wrap x.1)) 0
theorem Akv (l:List YB) (x:YB):Tj (l++[x])=IntKind.i64.wrap (IntKind.i64.wrap (Tj l*256)+IntKind.i64.wrap x.1):=by simp[Tj]
def Au2 (b:List YB) (p k:Int):YI×YI×(Bool×Unit):=
 if 1≤k∧k≤6∧0≤p∧p+k≤b.length then((Tj ((b.drop p.toNat).take k.toNat),()),(p+k,()),(true,()))else((0,()),(0,()),(false,()))
theorem A7s (b:List YB) (p k:Int) (hl:b.length≤4294967296):Alf (b,()) (p,()) (k,())=some (Au2 b p k):=by
 unfold Alf Ale Au2
 simp only[Ae,Ai,Ac]
 by_cases h1:k<1
 ·rw[Ak h1,A0,if_neg zq0]
 rw[Bh h1,Am]
 by_cases h2:k>6
 ·rw[Ak h2,A0,if_neg zq0]
 rw[Bh h2,Am]
 by_cases h3:p<0
 ·rw[Ak h3,A0,if_neg zq0]
 rw[Bh h3,Am,w64 (n:=(b.length:Int)-k) zq0]
 by_cases h4:p>(b.length:Int)-k
 ·rw[Ak h4,A0,if_neg zq0]
 rw[Bh h4,Am,if_pos zq0]
 have hr:=Cn (B:=Mn) k.toNat (fun i=>(b,p,k,Tj ((b.drop p.toNat).take i),(i:Int),())) (p,k,Tj ((b.drop p.toNat).take k.toNat),())
  (fun i hi=>by
   have hlt:p.toNat+i<b.length:=by omega
   have hx:=List.getElem?_eq_getElem hlt
   have hx2:(b.drop p.toNat)[i]? =some b[p.toNat+i]:=by rw[List.getElem?_drop];exact hx
   unfold Mn
   simp only[Ae,Ai,Ac]
   rw[Ak zq0,A0,w64 (n:=p+(i:Int)) zq0,show p+(i:Int)=((p.toNat+i:Nat):Int) by omega,Ca hx,Ag,w64 (n:=(i:Int)+1) zq0,←Fd hx2,Akv]
   rfl)
  (by
   unfold Mn
   simp only[Ae,Ai,Ac]
   rw[Bh zq0,Am])
 rw[show Ay Mn (b,p,k,(0:Int),(0:Int),())=_ from hr,Ag]
 simp only
 rw[w64 zq0]
theorem A8t (b:List YB) (p n:Int) (hl:b.length≤4294967296):Apq (b,()) (p,()) (n,())=some (if 0≤p∧0≤n∧p+n≤b.length then(((b.drop p.toNat).take n.toNat,()),(true,()))else(([],()),(false,()))):=by
 unfold Apq App
 simp only[Ae,Aj,Ac]
 by_cases h1:p<0
 ·rw[Ak h1,A0,if_neg zq0]
 rw[Bh h1,Am]
 by_cases h2:n<0
 ·rw[Ak h2,A0,if_neg zq0]
 rw[Bh h2,Am]
 by_cases h3:p>(b.length:Int)
 ·rw[Ak h3,A0,if_neg zq0]
 rw[Bh h3,Am,w64 (n:=(b.length:Int)-p) zq0]
 by_cases h4:n>(b.length:Int)-p
 ·rw[Ak h4,A0,if_neg zq0]
 rw[Bh h4,Am,if_pos zq0,w64 (n:=p+n) zq0,Ak zq0,Ak zq0,Ak zq0,Ak zq1]
 simp only[A8,List.nil_append]
 rw[show(p+n).toNat=p.toNat+n.toNat by omega,List.drop_take,Nat.add_sub_cancel_left]
theorem A7t (b:List YB) (p k:Int) (hl:b.length≤4294967296):Alk (b,()) (p,()) (k,())=some (Au2 b p k):=by
 unfold Alk Alj Au2
 simp only[Ae,Ai,Ac]
 by_cases h1:k<1
 ·rw[Ak h1,A0,if_neg zq0]
 rw[Bh h1,Am]
 by_cases h2:k>6
 ·rw[Ak h2,A0,if_neg zq0]
 rw[Bh h2,Am,A8t _ _ _ hl,Ag]
 by_cases h3:0≤p∧0≤k∧p+k≤b.length
 ·rw[if_pos h3,if_pos zq0]
  simp only[Bool.not_true,Am]
  have hlen:((b.drop p.toNat).take k.toNat).length=k.toNat:=by simp;omega
  have hr:=Cn (B:=Mt) k.toNat (fun i=>(p,k,Tj (((b.drop p.toNat).take k.toNat).take i),(b.drop p.toNat).take k.toNat,(((b.drop p.toNat).take k.toNat).length:Int),(i:Int),())) (p,k,Tj ((b.drop p.toNat).take k.toNat),())
   (fun i hi=>by
    have hx:=List.getElem?_eq_getElem (show i<((b.drop p.toNat).take k.toNat).length by omega)
    unfold Mt
    simp only[Ae,Ai,Ac]
    rw[Ak zq0,A0,Ca hx,Ag,w64 (n:=(i:Int)+1) zq0,←Fd hx,Akv,Int.mul_comm 256]
    rfl)
   (by
    unfold Mt
    simp only[Ae,Ai,Ac]
    rw[Bh zq0,Am,List.take_take,Nat.min_self])
  rw[show Ay Mt (p,k,(0:Int),(b.drop p.toNat).take k.toNat,(((b.drop p.toNat).take k.toNat).length:Int),(0:Int),())=_ from hr,Ag]
  simp only
  rw[w64 zq0]
 ·rw[if_neg h3,if_neg zq0]
  rfl
theorem Aex {E:Type} {l z:List E} {n:Int} (h0:0≤n) (h1:n<l.length):idx (l++z) n=idx l n:=by
 unfold idx
 rw[if_pos h0,if_pos h0,List.getElem?_append_left zq0]
theorem Ar1 {l:List YI} {i k:Nat} (h:l.length=i) (hk:i<k) (x:YI):(l++List.replicate (k-i) ((0:Int),())).set i x=(l++[x])++List.replicate (k-(i+1)) ((0:Int),()):=by
 rw[List.set_append_right _ _ zq0,h,Nat.sub_self,show k-i=(k-(i+1))+1 by omega,List.replicate_succ,List.set_cons_zero]
 simp
theorem Au3 {l:List YI} {i k:Nat} (h:l.length=i) (hk:i<k):idx (l++List.replicate (k-i) ((0:Int),())) (i:Int)=some ((0:Int),()):=by
 rw[A0o,List.getElem?_append_right zq0,h,Nat.sub_self,List.getElem?_replicate,if_pos zq0]
theorem Ax2 (b:List YB) (hl:b.length≤4294967296): ∃r,V8 (b,())=some (r,())∧Vj (b,())=some (r,())∧(b.length=64→r.length=64):=by
 unfold V8 Py Vj Pk
 simp only[Ae,Ai,Ac]
 by_cases h:b.length=64
 ·rw[C4 (by simp[h]),C4 (by simp[h])]
  obtain⟨o1,o2,h1,h2,hq⟩:=Wx (B1:=Hp) (B2:=Hn)
   (fun i d1 d2=>∃l:List YI,l.length=i∧d1=(b,l++List.replicate (64-i) ((0:Int),()),(i:Int),())∧d2=(b,l,(i:Int),()))
   (fun o1 o2=>o2.1.length=16∧o1=(o2.1++List.replicate 48 ((0:Int),()),())) 16
   (by
    rintro i d1 d2 hi ⟨l,hll,rfl,rfl⟩
    left
    unfold Hp Hn
    simp only[Ae,Ai,Ac,Aj]
    rw[Ak zq0,A0,A0,w64 (n:=4*(i:Int)) zq0,A7t _ _ _ hl,A7s _ _ _ hl,Ag,Ag,Au3 hll zq0,Ag,Ak zq1,A8,w64 zq0,Int.toNat_natCast,Ar1 hll zq0]
    exact⟨_,_,rfl,rfl,l++[(Au2 b (4*(i:Int)) 4).1],by simp[hll],rfl,rfl⟩)
   (by
    rintro d1 d2 ⟨l,hll,rfl,rfl⟩
    unfold Hp Hn
    simp only[Ae,Ai,Ac,Aj]
    rw[Bh zq0,Am,Am]
    exact⟨_,_,rfl,rfl,hll,by simp only[Nat.reduceSub]⟩)
   (d1:=(b,List.replicate 64 ((0:Int),()),(0:Int),())) (d2:=(b,[],(0:Int),())) ⟨[],rfl,by simp only[Nat.sub_zero,List.nil_append,Int.natCast_zero],by simp only[Int.natCast_zero]⟩
  rw[show(64:Int).toNat=64 from rfl,h1,h2,Ag,Ag]
  obtain⟨hq1,rfl⟩:=hq
  obtain⟨o3,o4,h3,h4,hq⟩:=Wx (B1:=Hq) (B2:=Gn)
   (fun i d1 d2=>∃l:List YI,l.length=16+i∧d1=(l++List.replicate (64-(16+i)) ((0:Int),()),((16+i:Nat):Int),())∧d2=(l,((16+i:Nat):Int),()))
   (fun o1 o2=>o1=o2∧o2.1.length=64) 48
   (by
    rintro i d1 d2 hi ⟨l,hll,rfl,rfl⟩
    left
    obtain⟨e1,g1,_⟩:=Rt (l:=l) (n:=((16+i:Nat):Int)-15) zq0 zq0
    obtain⟨e2,g2,_⟩:=Rt (l:=l) (n:=((16+i:Nat):Int)-2) zq0 zq0
    obtain⟨e3,g3,_⟩:=Rt (l:=l) (n:=((16+i:Nat):Int)-7) zq0 zq0
    obtain⟨e4,g4,_⟩:=Rt (l:=l) (n:=((16+i:Nat):Int)-16) zq0 zq0
    unfold Hq Gn
    simp only[Ae,Ai,Ac,Aj]
    rw[Ak zq0,A0,A0,w64 (n:=((16+i:Nat):Int)-15) zq0,w64 (n:=((16+i:Nat):Int)-2) zq0,w64 (n:=((16+i:Nat):Int)-7) zq0,w64 (n:=((16+i:Nat):Int)-16) zq0,
     w64 (n:=((16+i:Nat):Int)+1) zq0]
    rw[Aex zq0 zq0,g1,Ag,Aex zq0 zq0,g2,Ag,Aof _ _ zq4 zq4,Ag,Aof _ _ zq4 zq4,Ag,Aof _ _ zq4 zq4,Ag,Aof _ _ zq4 zq4,Ag,Aex zq0 zq0,g3,Ag,Aex zq0 zq0,g4,Ag,Au3 hll zq0,Ag]
    rw[Ag,Ag,Aog _ _ zq4 zq4,Ag,Aog _ _ zq4 zq4,Ag,Aog _ _ zq4 zq4,Ag,Aog _ _ zq4 zq4,Ag,Ag,Ag,Int.toNat_natCast]
    generalize IntKind.i64.wrap (((BitVec.ofInt _ _ &&& BitVec.ofInt _ (4294967295:Int)).toNat:Nat):Int)=z
    rw[Ak (by rw[List.length_singleton];omega),A8,Ar1 hll zq0]
    exact⟨_,_,rfl,rfl,_,by simp[hll];omega,rfl,rfl⟩)
   (by
    rintro d1 d2 ⟨l,hll,rfl,rfl⟩
    unfold Hq Gn
    simp only[Ae,Ai,Ac,Aj]
    rw[Bh zq0,Am,Am]
    exact⟨_,_,rfl,rfl,by simp,by omega⟩)
   (d1:=(o2.1++List.replicate 48 ((0:Int),()),(16:Int),())) (d2:=(o2.1,(16:Int),())) ⟨o2.1,hq1,by simp only[Nat.add_zero,Nat.reduceSub];rfl,rfl⟩
  rw[h3,h4]
  obtain⟨rfl,hq2⟩:=hq
  exact⟨o3.1,rfl,rfl,fun _=>hq2⟩
 ·have h': ¬((b.length:Int)=64):=by omega
  rw[Fg (by simpa using h'),Fg (by simpa using h')]
  exact⟨[],rfl,rfl,fun h2=>(h h2).elim⟩
end
end Go.Proofs.YtmhhajdeafijmaaGreat
