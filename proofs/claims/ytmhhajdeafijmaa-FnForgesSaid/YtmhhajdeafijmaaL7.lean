/-
  That the program and the reference answer alike, in plain terms, and that the laws answer true.
-/
import Derived.Test.YtmhhajdeafijmaaL6
namespace Go.Proofs.Ytmhhajdeafijmaa
open Go.RowKit
set_option linter.unusedVariables false
set_option linter.unusedSimpArgs false
set_option maxHeartbeats 4000000
noncomputable section
def m32 (x:Int):Int:=IntKind.i64.wrap ((BitVec.ofInt (IntKind.i64.bits) x &&& BitVec.ofInt (IntKind.i64.bits) (4294967295:Int)).toNat:Nat)
theorem Rt (x:Int):m32 x=x%4294967296:=by
 have h:((BitVec.ofInt (IntKind.i64.bits) x &&& BitVec.ofInt (IntKind.i64.bits) (4294967295:Int)).toNat:Int)=x%4294967296:=by
  show((BitVec.ofInt 64 x &&& BitVec.ofInt 64 (4294967295:Int)).toNat:Int)=x%4294967296
  rw[BitVec.toNat_and,BitVec.toNat_ofInt,BitVec.toNat_ofInt]
  have e:((4294967295:Int)%((2^64:Nat):Int)).toNat=2^32-1:=by decide
  rw[e,Nat.and_two_pow_sub_one_eq_mod]
  have e2:((2^64:Nat):Int)=18446744073709551616:=by decide
  rw[e2]
  omega
 unfold m32
 rw[h,w64 zq0]
theorem Alp (s:Int):IntKind.i64.wrap s%4294967296=s%4294967296:=by rw[IntKind.wrap_i64];omega
theorem Pq (s:Int):m32 (IntKind.i64.wrap s)=s%4294967296:=by rw[Rt,Alp]
theorem Alq (x:Int):0≤m32 x∧m32 x≤4294967295:=by rw[Rt];omega
theorem Ais (d t:Int):m32 (IntKind.i64.wrap (d+m32 t))=m32 (IntKind.i64.wrap (d+t)):=by rw[Pq,Pq,Rt];omega
theorem Ait (t u:Int):m32 (IntKind.i64.wrap (m32 t+m32 u))=m32 (IntKind.i64.wrap (t+u)):=by rw[Pq,Pq,Rt,Rt];omega
def Afo (x n:Int):Int:=m32 (IntKind.i64.wrap ((BitVec.ofInt (IntKind.i64.bits) (Int.fdiv (m32 x) (2^(min n.toNat IntKind.i64.bits))) ||| BitVec.ofInt (IntKind.i64.bits) (IntKind.i64.wrap (m32 x*2^(min (IntKind.i64.wrap (32-n)).toNat IntKind.i64.bits)))).toNat:Nat))
theorem V3 (x n:YI) (h1:1≤n.1) (h2:n.1≤31):D7 x n=some (Afo x.1 n.1,()):=by
 unfold D7 Wx
 simp only[Ad,Aj,Ac]
 rw[Aq zq0,Aq zq0,Ah zq0,w64 (n:=32-n.1) zq0,Ah zq0]
 simp only[Am,Aw,Afo]
 rw[w64 (n:=32-n.1) zq0]
 rfl
theorem V4 (x n:YI) (h1:1≤n.1) (h2:n.1≤31):D8 x n=some (Afo x.1 n.1,()):=by
 unfold D8 W5
 simp only[Ad,Aj,Ac]
 rw[Aq zq0,Aq zq0,Ah zq0,w64 (n:=32-n.1) zq0,Ah zq0]
 simp only[Am,Aw,Afo]
 rw[w64 (n:=32-n.1) zq0]
 rfl
theorem Aei (a b:YI):Ly a b=some (m32 (IntKind.i64.wrap (a.1+b.1)),()):=rfl
def Ju (l:List YB):Int:=l.foldl (fun n x=>IntKind.i64.wrap (IntKind.i64.wrap (n*256)+IntKind.i64.wrap x.1)) 0
theorem To (l:List YB) (x:YB):Ju (l++[x])=IntKind.i64.wrap (IntKind.i64.wrap (Ju l*256)+IntKind.i64.wrap x.1):=by simp[Ju]
def Abt (b:List YB) (p k:Int):YI×YI×(Bool×Unit):=
 if 1≤k∧k≤6∧0≤p∧p+k≤b.length then((Ju ((b.drop p.toNat).take k.toNat),()),(p+k,()),(true,()))else((0,()),(0,()),(false,()))
theorem Akx (b:List YB) (p k:Int) (hl:b.length≤4294967296):T5 (b,()) (p,()) (k,())=some (Abt b p k):=by
 unfold T5 T4 Abt
 simp only[Ad,Af,Ac]
 by_cases h1:k<1
 ·rw[Ah h1,Ay,if_neg zq0]
 rw[Aq h1,Am]
 by_cases h2:k>6
 ·rw[Ah h2,Ay,if_neg zq0]
 rw[Aq h2,Am]
 by_cases h3:p<0
 ·rw[Ah h3,Ay,if_neg zq0]
 rw[Aq h3,Am,w64 (n:=(b.length:Int)-k) zq0]
 by_cases h4:p>(b.length:Int)-k
 ·rw[Ah h4,Ay,if_neg zq0]
 rw[Aq h4,Am,if_pos zq0]
 have hr:=By (B:=Gq) k.toNat (fun i=>(b,p,k,Ju ((b.drop p.toNat).take i),(i:Int),())) (p,k,Ju ((b.drop p.toNat).take k.toNat),())
  (fun i hi=>by
   have hlt:p.toNat+i<b.length:=by omega
   have hx:=List.getElem?_eq_getElem hlt
   have hx2:(b.drop p.toNat)[i]? =some b[p.toNat+i]:=by rw[List.getElem?_drop];exact hx
   unfold Gq
   simp only[Ad,Af,Ac]
   rw[Ah zq0,Ay,w64 (n:=p+(i:Int)) zq0,show p+(i:Int)=((p.toNat+i:Nat):Int) by omega,B8 hx,Ae,w64 (n:=(i:Int)+1) zq0,←E4 hx2,To]
   rfl)
  (by
   unfold Gq
   simp only[Ad,Af,Ac]
   rw[Aq zq0,Am])
 rw[show Al Gq (b,p,k,(0:Int),(0:Int),())=_ from hr,Ae]
 simp only
 rw[w64 zq0]
theorem Alr (b:List YB) (p n:Int) (hl:b.length≤4294967296):Sl (b,()) (p,()) (n,())=some (if 0≤p∧0≤n∧p+n≤b.length then(((b.drop p.toNat).take n.toNat,()),(true,()))else(([],()),(false,()))):=by
 unfold Sl Ww
 simp only[Ad,Aj,Ac]
 by_cases h1:p<0
 ·rw[Ah h1,Ay,if_neg zq0]
 rw[Aq h1,Am]
 by_cases h2:n<0
 ·rw[Ah h2,Ay,if_neg zq0]
 rw[Aq h2,Am]
 by_cases h3:p>(b.length:Int)
 ·rw[Ah h3,Ay,if_neg zq0]
 rw[Aq h3,Am,w64 (n:=(b.length:Int)-p) zq0]
 by_cases h4:n>(b.length:Int)-p
 ·rw[Ah h4,Ay,if_neg zq0]
 rw[Aq h4,Am,if_pos zq0,w64 (n:=p+n) zq0,Ah zq0,Ah zq0,Ah zq0,Ah zq3]
 simp only[Aw,List.nil_append]
 rw[show(p+n).toNat=p.toNat+n.toNat by omega,List.drop_take,Nat.add_sub_cancel_left]
theorem Aky (b:List YB) (p k:Int) (hl:b.length≤4294967296):Tz (b,()) (p,()) (k,())=some (Abt b p k):=by
 unfold Tz Tx Abt
 simp only[Ad,Af,Ac]
 by_cases h1:k<1
 ·rw[Ah h1,Ay,if_neg zq0]
 rw[Aq h1,Am]
 by_cases h2:k>6
 ·rw[Ah h2,Ay,if_neg zq0]
 rw[Aq h2,Am,Alr _ _ _ hl,Ae]
 by_cases h3:0≤p∧0≤k∧p+k≤b.length
 ·rw[if_pos h3,if_pos zq0]
  simp only[Bool.not_true,Am]
  have hlen:((b.drop p.toNat).take k.toNat).length=k.toNat:=by simp;omega
  have hr:=By (B:=Gp) k.toNat (fun i=>(p,k,Ju (((b.drop p.toNat).take k.toNat).take i),(b.drop p.toNat).take k.toNat,(((b.drop p.toNat).take k.toNat).length:Int),(i:Int),())) (p,k,Ju ((b.drop p.toNat).take k.toNat),())
   (fun i hi=>by
    have hx:=List.getElem?_eq_getElem (show i<((b.drop p.toNat).take k.toNat).length by omega)
    unfold Gp
    simp only[Ad,Af,Ac]
    rw[Ah zq0,Ay,B8 hx,Ae,w64 (n:=(i:Int)+1) zq0,←E4 hx,To,Int.mul_comm 256]
    rfl)
   (by
    unfold Gp
    simp only[Ad,Af,Ac]
    rw[Aq zq0,Am,List.take_take,Nat.min_self])
  rw[show Al Gp (p,k,(0:Int),(b.drop p.toNat).take k.toNat,(((b.drop p.toNat).take k.toNat).length:Int),(0:Int),())=_ from hr,Ae]
  simp only
  rw[w64 zq0]
 ·rw[if_neg h3,if_neg zq0]
  rfl
theorem Pr {E:Type} {l z:List E} {n:Int} (h0:0≤n) (h1:n<l.length):idx (l++z) n=idx l n:=by
 unfold idx
 rw[if_pos h0,if_pos h0,List.getElem?_append_left zq0]
theorem Zu {l:List YI} {i k:Nat} (h:l.length=i) (hk:i<k) (x:YI):(l++List.replicate (k-i) ((0:Int),())).set i x=(l++[x])++List.replicate (k-(i+1)) ((0:Int),()):=by
 rw[List.set_append_right _ _ zq0,h,Nat.sub_self,show k-i=(k-(i+1))+1 by omega,List.replicate_succ,List.set_cons_zero]
 simp
theorem Abu {l:List YI} {i k:Nat} (h:l.length=i) (hk:i<k):idx (l++List.replicate (k-i) ((0:Int),())) (i:Int)=some ((0:Int),()):=by
 rw[Afl,List.getElem?_append_right zq0,h,Nat.sub_self,List.getElem?_replicate,if_pos zq0]
theorem Adu (b:List YB) (hl:b.length≤4294967296): ∃r,Ks (b,())=some (r,())∧Kw (b,())=some (r,())∧(b.length=64→r.length=64):=by
 unfold Ks Ib Kw Ih
 simp only[Ad,Af,Ac]
 by_cases h:b.length=64
 ·rw[Ki (by simp[h]),Ki (by simp[h])]
  obtain⟨o1,o2,h1,h2,hq⟩:=Ps (B1:=Dr) (B2:=Dt)
   (fun i d1 d2=>∃l:List YI,l.length=i∧d1=(b,l++List.replicate (64-i) ((0:Int),()),(i:Int),())∧d2=(b,l,(i:Int),()))
   (fun o1 o2=>o2.1.length=16∧o1=(o2.1++List.replicate 48 ((0:Int),()),())) 16
   (by
    rintro i d1 d2 hi ⟨l,hll,rfl,rfl⟩
    left
    unfold Dr Dt
    simp only[Ad,Af,Ac,Aj]
    rw[Ah zq0,Ay,Ay,w64 (n:=4*(i:Int)) zq0,Aky _ _ _ hl,Akx _ _ _ hl,Ae,Ae,Abu hll zq0,Ae,Ah zq3,Aw,w64 zq0,Int.toNat_natCast,Zu hll zq0]
    exact⟨_,_,rfl,rfl,l++[(Abt b (4*(i:Int)) 4).1],by simp[hll],rfl,rfl⟩)
   (by
    rintro d1 d2 ⟨l,hll,rfl,rfl⟩
    unfold Dr Dt
    simp only[Ad,Af,Ac,Aj]
    rw[Aq zq0,Am,Am]
    exact⟨_,_,rfl,rfl,hll,by simp only[Nat.reduceSub]⟩)
   (d1:=(b,List.replicate 64 ((0:Int),()),(0:Int),())) (d2:=(b,[],(0:Int),())) ⟨[],rfl,by simp only[Nat.sub_zero,List.nil_append,Int.natCast_zero],by simp only[Int.natCast_zero]⟩
  rw[show(64:Int).toNat=64 from rfl,h1,h2,Ae,Ae]
  obtain⟨hq1,rfl⟩:=hq
  obtain⟨o3,o4,h3,h4,hq⟩:=Ps (B1:=Ds) (B2:=Df)
   (fun i d1 d2=>∃l:List YI,l.length=16+i∧d1=(l++List.replicate (64-(16+i)) ((0:Int),()),((16+i:Nat):Int),())∧d2=(l,((16+i:Nat):Int),()))
   (fun o1 o2=>o1=o2∧o2.1.length=64) 48
   (by
    rintro i d1 d2 hi ⟨l,hll,rfl,rfl⟩
    left
    obtain⟨e1,g1,_⟩:=Pt (l:=l) (n:=((16+i:Nat):Int)-15) zq0 zq0
    obtain⟨e2,g2,_⟩:=Pt (l:=l) (n:=((16+i:Nat):Int)-2) zq0 zq0
    obtain⟨e3,g3,_⟩:=Pt (l:=l) (n:=((16+i:Nat):Int)-7) zq0 zq0
    obtain⟨e4,g4,_⟩:=Pt (l:=l) (n:=((16+i:Nat):Int)-16) zq0 zq0
    unfold Ds Df
    simp only[Ad,Af,Ac,Aj]
    rw[Ah zq0,Ay,Ay,w64 (n:=((16+i:Nat):Int)-15) zq0,w64 (n:=((16+i:Nat):Int)-2) zq0,w64 (n:=((16+i:Nat):Int)-7) zq0,w64 (n:=((16+i:Nat):Int)-16) zq0,
     w64 (n:=((16+i:Nat):Int)+1) zq0]
    rw[Pr zq0 zq0,g1,Ae,Pr zq0 zq0,g2,Ae,V3 _ _ zq4 zq4,Ae,V3 _ _ zq4 zq4,Ae,V3 _ _ zq4 zq4,Ae,V3 _ _ zq4 zq4,Ae,Pr zq0 zq0,g3,Ae,Pr zq0 zq0,g4,Ae,Abu hll zq0,Ae]
    rw[Ae,Ae,V4 _ _ zq4 zq4,Ae,V4 _ _ zq4 zq4,Ae,V4 _ _ zq4 zq4,Ae,V4 _ _ zq4 zq4,Ae,Ae,Ae,Int.toNat_natCast]
    generalize IntKind.i64.wrap (((BitVec.ofInt _ _ &&& BitVec.ofInt _ (4294967295:Int)).toNat:Nat):Int)=z
    rw[Ah (by rw[List.length_singleton];omega),Aw,Zu hll zq0]
    exact⟨_,_,rfl,rfl,_,by simp[hll];omega,rfl,rfl⟩)
   (by
    rintro d1 d2 ⟨l,hll,rfl,rfl⟩
    unfold Ds Df
    simp only[Ad,Af,Ac,Aj]
    rw[Aq zq0,Am,Am]
    exact⟨_,_,rfl,rfl,by simp,by omega⟩)
   (d1:=(o2.1++List.replicate 48 ((0:Int),()),(16:Int),())) (d2:=(o2.1,(16:Int),())) ⟨o2.1,hq1,by simp only[Nat.add_zero,Nat.reduceSub];rfl,rfl⟩
  rw[h3,h4]
  obtain⟨rfl,hq2⟩:=hq
  exact⟨o3.1,rfl,rfl,fun _=>hq2⟩
 ·have h': ¬((b.length:Int)=64):=by omega
  rw[Sp (by simpa using h'),Sp (by simpa using h')]
  exact⟨[],rfl,rfl,fun h2=>(h h2).elim⟩
end
end Go.Proofs.Ytmhhajdeafijmaa
