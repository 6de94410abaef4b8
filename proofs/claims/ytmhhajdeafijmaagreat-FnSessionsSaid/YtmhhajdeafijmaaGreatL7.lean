/-
  That the program and the reference answer alike, in plain terms, and that the laws answer true.
-/
import Derived.Test.YtmhhajdeafijmaaGreatL6
namespace Go.Proofs.YtmhhajdeafijmaaGreat
open Go.RowKit
set_option linter.unusedVariables false
set_option linter.unusedSimpArgs false
set_option maxHeartbeats 4000000
noncomputable section
def m32 (x:Int):Int:=IntKind.i64.wrap ((BitVec.ofInt (IntKind.i64.bits) x &&& BitVec.ofInt (IntKind.i64.bits) (4294967295:Int)).toNat:Nat)
theorem Ajj (x:Int):m32 x=x%4294967296:=by
 have h:((BitVec.ofInt (IntKind.i64.bits) x &&& BitVec.ofInt (IntKind.i64.bits) (4294967295:Int)).toNat:Int)=x%4294967296:=by
  show((BitVec.ofInt 64 x &&& BitVec.ofInt 64 (4294967295:Int)).toNat:Int)=x%4294967296
  rw[BitVec.toNat_and,BitVec.toNat_ofInt,BitVec.toNat_ofInt]
  have e:((4294967295:Int)%((2^64:Nat):Int)).toNat=2^32-1:=by decide
  rw[e,Nat.and_two_pow_sub_one_eq_mod]
  have e2:((2^64:Nat):Int)=18446744073709551616:=by decide
  rw[e2]
  omega
 unfold m32
 rw[h,w64 zq0]
theorem Bax (s:Int):IntKind.i64.wrap s%4294967296=s%4294967296:=by rw[IntKind.wrap_i64];omega
theorem Afw (s:Int):m32 (IntKind.i64.wrap s)=s%4294967296:=by rw[Ajj,Bax]
theorem Bay (x:Int):0≤m32 x∧m32 x≤4294967295:=by rw[Ajj];omega
theorem A66 (d t:Int):m32 (IntKind.i64.wrap (d+m32 t))=m32 (IntKind.i64.wrap (d+t)):=by rw[Afw,Afw,Ajj];omega
theorem A67 (t u:Int):m32 (IntKind.i64.wrap (m32 t+m32 u))=m32 (IntKind.i64.wrap (t+u)):=by rw[Afw,Afw,Ajj,Ajj];omega
def A2w (x n:Int):Int:=m32 (IntKind.i64.wrap ((BitVec.ofInt (IntKind.i64.bits) (Int.fdiv (m32 x) (2^(min n.toNat IntKind.i64.bits))) ||| BitVec.ofInt (IntKind.i64.bits) (IntKind.i64.wrap (m32 x*2^(min (IntKind.i64.wrap (32-n)).toNat IntKind.i64.bits)))).toNat:Nat))
theorem Aqc (x n:YI) (h1:1≤n.1) (h2:n.1≤31):Ir x n=some (A2w x.1 n.1,()):=by
 unfold Ir Arx
 simp only[Ae,Ak,Ac]
 rw[Bj zq0,Bj zq0,Am zq0,w64 (n:=32-n.1) zq0,Am zq0]
 simp only[An,Ba,A2w]
 rw[w64 (n:=32-n.1) zq0]
 rfl
theorem Aqd (x n:YI) (h1:1≤n.1) (h2:n.1≤31):Ip x n=some (A2w x.1 n.1,()):=by
 unfold Ip Ari
 simp only[Ae,Ak,Ac]
 rw[Bj zq0,Bj zq0,Am zq0,w64 (n:=32-n.1) zq0,Am zq0]
 simp only[An,Ba,A2w]
 rw[w64 (n:=32-n.1) zq0]
 rfl
theorem A1a (a b:YI):Zr a b=some (m32 (IntKind.i64.wrap (a.1+b.1)),()):=rfl
def T8 (l:List YB):Int:=l.foldl (fun n x=>IntKind.i64.wrap (IntKind.i64.wrap (n*256)+IntKind.i64.wrap x.1)) 0
theorem Amf (l:List YB) (x:YB):T8 (l++[x])=IntKind.i64.wrap (IntKind.i64.wrap (T8 l*256)+IntKind.i64.wrap x.1):=by simp[T8]
def Aw6 (b:List YB) (p k:Int):YI×YI×(Bool×Unit):=
 if 1≤k∧k≤6∧0≤p∧p+k≤b.length then((T8 ((b.drop p.toNat).take k.toNat),()),(p+k,()),(true,()))else((0,()),(0,()),(false,()))
theorem A9y (b:List YB) (p k:Int) (hl:b.length≤4294967296):Ang (b,()) (p,()) (k,())=some (Aw6 b p k):=by
 unfold Ang Amy Aw6
 simp only[Ae,Ai,Ac]
 by_cases h1:k<1
 ·rw[Am h1,A0,if_neg zq0]
 rw[Bj h1,An]
 by_cases h2:k>6
 ·rw[Am h2,A0,if_neg zq0]
 rw[Bj h2,An]
 by_cases h3:p<0
 ·rw[Am h3,A0,if_neg zq0]
 rw[Bj h3,An,w64 (n:=(b.length:Int)-k) zq0]
 by_cases h4:p>(b.length:Int)-k
 ·rw[Am h4,A0,if_neg zq0]
 rw[Bj h4,An,if_pos zq0]
 have hr:=Cp (B:=M5) k.toNat (fun i=>(b,p,k,T8 ((b.drop p.toNat).take i),(i:Int),())) (p,k,T8 ((b.drop p.toNat).take k.toNat),())
  (fun i hi=>by
   have hlt:p.toNat+i<b.length:=by omega
   have hx:=List.getElem?_eq_getElem hlt
   have hx2:(b.drop p.toNat)[i]? =some b[p.toNat+i]:=by rw[List.getElem?_drop];exact hx
   unfold M5
   simp only[Ae,Ai,Ac]
   rw[Am zq0,A0,w64 (n:=p+(i:Int)) zq0,show p+(i:Int)=((p.toNat+i:Nat):Int) by omega,Cb hx,Ag,w64 (n:=(i:Int)+1) zq0,←Fe hx2,Amf]
   rfl)
  (by
   unfold M5
   simp only[Ae,Ai,Ac]
   rw[Bj zq0,An])
 rw[show Ay M5 (b,p,k,(0:Int),(0:Int),())=_ from hr,Ag]
 simp only
 rw[w64 zq0]
theorem Baz (b:List YB) (p n:Int) (hl:b.length≤4294967296):Asd (b,()) (p,()) (n,())=some (if 0≤p∧0≤n∧p+n≤b.length then(((b.drop p.toNat).take n.toNat,()),(true,()))else(([],()),(false,()))):=by
 unfold Asd Arv
 simp only[Ae,Ak,Ac]
 by_cases h1:p<0
 ·rw[Am h1,A0,if_neg zq0]
 rw[Bj h1,An]
 by_cases h2:n<0
 ·rw[Am h2,A0,if_neg zq0]
 rw[Bj h2,An]
 by_cases h3:p>(b.length:Int)
 ·rw[Am h3,A0,if_neg zq0]
 rw[Bj h3,An,w64 (n:=(b.length:Int)-p) zq0]
 by_cases h4:n>(b.length:Int)-p
 ·rw[Am h4,A0,if_neg zq0]
 rw[Bj h4,An,if_pos zq0,w64 (n:=p+n) zq0,Am zq0,Am zq0,Am zq0,Am zq1]
 simp only[Ba,List.nil_append]
 rw[show(p+n).toNat=p.toNat+n.toNat by omega,List.drop_take,Nat.add_sub_cancel_left]
theorem A9z (b:List YB) (p k:Int) (hl:b.length≤4294967296):Anh (b,()) (p,()) (k,())=some (Aw6 b p k):=by
 unfold Anh Am7 Aw6
 simp only[Ae,Ai,Ac]
 by_cases h1:k<1
 ·rw[Am h1,A0,if_neg zq0]
 rw[Bj h1,An]
 by_cases h2:k>6
 ·rw[Am h2,A0,if_neg zq0]
 rw[Bj h2,An,Baz _ _ _ hl,Ag]
 by_cases h3:0≤p∧0≤k∧p+k≤b.length
 ·rw[if_pos h3,if_pos zq0]
  simp only[Bool.not_true,An]
  have hlen:((b.drop p.toNat).take k.toNat).length=k.toNat:=by simp;omega
  have hr:=Cp (B:=M9) k.toNat (fun i=>(p,k,T8 (((b.drop p.toNat).take k.toNat).take i),(b.drop p.toNat).take k.toNat,(((b.drop p.toNat).take k.toNat).length:Int),(i:Int),())) (p,k,T8 ((b.drop p.toNat).take k.toNat),())
   (fun i hi=>by
    have hx:=List.getElem?_eq_getElem (show i<((b.drop p.toNat).take k.toNat).length by omega)
    unfold M9
    simp only[Ae,Ai,Ac]
    rw[Am zq0,A0,Cb hx,Ag,w64 (n:=(i:Int)+1) zq0,←Fe hx,Amf,Int.mul_comm 256]
    rfl)
   (by
    unfold M9
    simp only[Ae,Ai,Ac]
    rw[Bj zq0,An,List.take_take,Nat.min_self])
  rw[show Ay M9 (p,k,(0:Int),(b.drop p.toNat).take k.toNat,(((b.drop p.toNat).take k.toNat).length:Int),(0:Int),())=_ from hr,Ag]
  simp only
  rw[w64 zq0]
 ·rw[if_neg h3,if_neg zq0]
  rfl
theorem Afx {E:Type} {l z:List E} {n:Int} (h0:0≤n) (h1:n<l.length):idx (l++z) n=idx l n:=by
 unfold idx
 rw[if_pos h0,if_pos h0,List.getElem?_append_left zq0]
theorem At0 {l:List YI} {i k:Nat} (h:l.length=i) (hk:i<k) (x:YI):(l++List.replicate (k-i) ((0:Int),())).set i x=(l++[x])++List.replicate (k-(i+1)) ((0:Int),()):=by
 rw[List.set_append_right _ _ zq0,h,Nat.sub_self,show k-i=(k-(i+1))+1 by omega,List.replicate_succ,List.set_cons_zero]
 simp
theorem Aw7 {l:List YI} {i k:Nat} (h:l.length=i) (hk:i<k):idx (l++List.replicate (k-i) ((0:Int),())) (i:Int)=some ((0:Int),()):=by
 rw[A2u,List.getElem?_append_right zq0,h,Nat.sub_self,List.getElem?_replicate,if_pos zq0]
theorem Az6 (b:List YB) (hl:b.length≤4294967296): ∃r,Xc (b,())=some (r,())∧W3 (b,())=some (r,())∧(b.length=64→r.length=64):=by
 unfold Xc Qo W3 Qd
 simp only[Ae,Ai,Ac]
 by_cases h:b.length=64
 ·rw[C7 (by simp[h]),C7 (by simp[h])]
  obtain⟨o1,o2,h1,h2,hq⟩:=Xk (B1:=Hu) (B2:=Hs)
   (fun i d1 d2=>∃l:List YI,l.length=i∧d1=(b,l++List.replicate (64-i) ((0:Int),()),(i:Int),())∧d2=(b,l,(i:Int),()))
   (fun o1 o2=>o2.1.length=16∧o1=(o2.1++List.replicate 48 ((0:Int),()),())) 16
   (by
    rintro i d1 d2 hi ⟨l,hll,rfl,rfl⟩
    left
    unfold Hu Hs
    simp only[Ae,Ai,Ac,Ak]
    rw[Am zq0,A0,A0,w64 (n:=4*(i:Int)) zq0,A9z _ _ _ hl,A9y _ _ _ hl,Ag,Ag,Aw7 hll zq0,Ag,Am zq1,Ba,w64 zq0,Int.toNat_natCast,At0 hll zq0]
    exact⟨_,_,rfl,rfl,l++[(Aw6 b (4*(i:Int)) 4).1],by simp[hll],rfl,rfl⟩)
   (by
    rintro d1 d2 ⟨l,hll,rfl,rfl⟩
    unfold Hu Hs
    simp only[Ae,Ai,Ac,Ak]
    rw[Bj zq0,An,An]
    exact⟨_,_,rfl,rfl,hll,by simp only[Nat.reduceSub]⟩)
   (d1:=(b,List.replicate 64 ((0:Int),()),(0:Int),())) (d2:=(b,[],(0:Int),())) ⟨[],rfl,by simp only[Nat.sub_zero,List.nil_append,Int.natCast_zero],by simp only[Int.natCast_zero]⟩
  rw[show(64:Int).toNat=64 from rfl,h1,h2,Ag,Ag]
  obtain⟨hq1,rfl⟩:=hq
  obtain⟨o3,o4,h3,h4,hq⟩:=Xk (B1:=Hv) (B2:=Gr)
   (fun i d1 d2=>∃l:List YI,l.length=16+i∧d1=(l++List.replicate (64-(16+i)) ((0:Int),()),((16+i:Nat):Int),())∧d2=(l,((16+i:Nat):Int),()))
   (fun o1 o2=>o1=o2∧o2.1.length=64) 48
   (by
    rintro i d1 d2 hi ⟨l,hll,rfl,rfl⟩
    left
    obtain⟨e1,g1,_⟩:=Sq (l:=l) (n:=((16+i:Nat):Int)-15) zq0 zq0
    obtain⟨e2,g2,_⟩:=Sq (l:=l) (n:=((16+i:Nat):Int)-2) zq0 zq0
    obtain⟨e3,g3,_⟩:=Sq (l:=l) (n:=((16+i:Nat):Int)-7) zq0 zq0
    obtain⟨e4,g4,_⟩:=Sq (l:=l) (n:=((16+i:Nat):Int)-16) zq0 zq0
    unfold Hv Gr
    simp only[Ae,Ai,Ac,Ak]
    rw[Am zq0,A0,A0,w64 (n:=((16+i:Nat):Int)-15) zq0,w64 (n:=((16+i:Nat):Int)-2) zq0,w64 (n:=((16+i:Nat):Int)-7) zq0,w64 (n:=((16+i:Nat):Int)-16) zq0,
     w64 (n:=((16+i:Nat):Int)+1) zq0]
    rw[Afx zq0 zq0,g1,Ag,Afx zq0 zq0,g2,Ag,Aqc _ _ zq4 zq4,Ag,Aqc _ _ zq4 zq4,Ag,Aqc _ _ zq4 zq4,Ag,Aqc _ _ zq4 zq4,Ag,Afx zq0 zq0,g3,Ag,Afx zq0 zq0,g4,Ag,Aw7 hll zq0,Ag]
    rw[Ag,Ag,Aqd _ _ zq4 zq4,Ag,Aqd _ _ zq4 zq4,Ag,Aqd _ _ zq4 zq4,Ag,Aqd _ _ zq4 zq4,Ag,Ag,Ag,Int.toNat_natCast]
    generalize IntKind.i64.wrap (((BitVec.ofInt _ _ &&& BitVec.ofInt _ (4294967295:Int)).toNat:Nat):Int)=z
    rw[Am (by rw[List.length_singleton];omega),Ba,At0 hll zq0]
    exact⟨_,_,rfl,rfl,_,by simp[hll];omega,rfl,rfl⟩)
   (by
    rintro d1 d2 ⟨l,hll,rfl,rfl⟩
    unfold Hv Gr
    simp only[Ae,Ai,Ac,Ak]
    rw[Bj zq0,An,An]
    exact⟨_,_,rfl,rfl,by simp,by omega⟩)
   (d1:=(o2.1++List.replicate 48 ((0:Int),()),(16:Int),())) (d2:=(o2.1,(16:Int),())) ⟨o2.1,hq1,by simp only[Nat.add_zero,Nat.reduceSub];rfl,rfl⟩
  rw[h3,h4]
  obtain⟨rfl,hq2⟩:=hq
  exact⟨o3.1,rfl,rfl,fun _=>hq2⟩
 ·have h': ¬((b.length:Int)=64):=by omega
  rw[Fh (by simpa using h'),Fh (by simpa using h')]
  exact⟨[],rfl,rfl,fun h2=>(h h2).elim⟩
end
end Go.Proofs.YtmhhajdeafijmaaGreat
