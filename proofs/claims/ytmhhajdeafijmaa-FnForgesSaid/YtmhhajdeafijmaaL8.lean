/-
  That the program and the reference answer alike, in plain terms, and that the laws answer true.
-/
import Derived.Test.YtmhhajdeafijmaaL7
namespace Go.Proofs.Ytmhhajdeafijmaa
open Go.RowKit
set_option linter.unusedVariables false
set_option linter.unusedSimpArgs false
set_option maxHeartbeats 4000000
noncomputable section
def kL:List YI:=G7.map fun x=>(x,())
theorem Als:Aeb=some (kL,()):=rfl
theorem Adv (n:YI):Qo n=some (Js n.1,()):=rfl
theorem Alt (i:Nat) (h:i<64):idx kL (i:Int)=some (Js (i:Int),()):=by
 rw[Afl]
 unfold kL Js
 rw[List.getElem?_map,if_pos zq0,Int.toNat_natCast]
 have:i<G7.length:=by simpa [G7] using h
 rw[List.getElem?_eq_getElem this];rfl
theorem Ahf (l:List YI) (hl:l.length≤4294967296):Mw (l,())=some (Cu l && ((l.length:Int)==8),()):=by
 have h:=Zt (B:=Fj) l (fun i=>(l,(i:Int),())) (fun _ e=> !inR e.1 0 4294967295) (false,()) (l,())
  (fun i x hi hx=>by
   unfold Fj
   simp (disch:=omega) only[Ad,Af,Ac,Iq hi,Ay,B8 hx,Ae,Lf,w64]
   rfl)
  (by unfold Fj;simp only[Ad,Af,Ac,Le,Am])
 unfold Mw Mv
 simp only[Af,V2,Ac]
 rw[show((0:Int))=((0:Nat):Int)from rfl,h]
 unfold Cu
 cases Pp (fun _ (e:YI)=> !inR e.1 0 4294967295) l<;>rfl
theorem Ahg (x:BitVec IntKind.i64.bits):BitVec.ofInt (IntKind.i64.bits) (4294967295:Int) ^^^ x=x ^^^ BitVec.ofInt (IntKind.i64.bits) (4294967295:Int):=BitVec.xor_comm _ _
theorem Afp {l:List YI}:Cu l=true↔ ∀(j:Nat) (x:YI),l[j]? =some x→0≤x.1∧x.1≤4294967295:=by
 unfold Cu
 rw[Ajz]
 simp only[Bool.not_eq_false',Ep]
theorem Ahh (h out w:List YI) (hw:w.length=64) (a b c d e f g z:Int):
  ∃a' b' c' d' e' f' g' z',Al C8 (h,out,w,a,b,c,d,e,f,g,z,(0:Int),())=some (h,out,a',b',c',d',e',f',g',z',())∧
   Al C9 (h,out,kL,w,a,b,c,d,e,f,g,z,(0:Int),())=some (h,out,a',b',c',d',e',f',g',z',()):=by
 obtain⟨o1,o2,h1,h2,hq⟩:=Ps (B1:=C8) (B2:=C9)
  (fun i d1 d2=>∃a b c d e f g z:Int,d1=(h,out,w,a,b,c,d,e,f,g,z,(i:Int),())∧d2=(h,out,kL,w,a,b,c,d,e,f,g,z,(i:Int),()))
  (fun o1 o2=>o1=o2∧ ∃a b c d e f g z:Int,o1=(h,out,a,b,c,d,e,f,g,z,())) 64
  (by
   rintro i d1 d2 hi ⟨a,b,c,d,e,f,g,z,rfl,rfl⟩
   left
   obtain⟨x,hx⟩: ∃x,w[i]? =some x:=⟨_,List.getElem?_eq_getElem zq0⟩
   have hk:=Alt i hi
   unfold C8 C9
   simp only[Ad,Af,Ac,Aj]
   rw[Ah zq0,Ay,Ay]
   simp (disch:=decide) only[V3,V4,Ae,Adv,B8 hx,hk,Aei,Ahg]
   rw[w64 (n:=(i:Int)+1) zq0]
   refine⟨_,_,rfl,rfl,_,_,_,_,_,_,_,_,rfl,?_⟩
   simp only[Prod.mk.injEq,true_and,and_true]
   exact⟨Ait _ _,Ais _ _,by omega⟩)
  (by
   rintro d1 d2 ⟨a,b,c,d,e,f,g,z,rfl,rfl⟩
   unfold C8 C9
   simp only[Ad,Af,Ac,Aj]
   exact⟨_,_,rfl,rfl,rfl,_,_,_,_,_,_,_,_,rfl⟩)
  (d1:=(h,out,w,a,b,c,d,e,f,g,z,(0:Int),())) (d2:=(h,out,kL,w,a,b,c,d,e,f,g,z,(0:Int),())) ⟨a,b,c,d,e,f,g,z,rfl,rfl⟩
 obtain⟨rfl,a',b',c',d',e',f',g',z',rfl⟩:=hq
 exact⟨_,_,_,_,_,_,_,_,h1,h2⟩
theorem Aj0 (h l:List YI) (hh:h.length=8) (hl:l.length=8): ∃r:List YI,r.length=8∧Cu r=true∧Al Cq (h,h,l,(l.length:Int),(0:Int),())=some (r,())∧Al Cr (h,h,l,(0:Int),())=some (r,()):=by
 obtain⟨o1,o2,h1,h2,hq⟩:=Ps (B1:=Cq) (B2:=Cr)
  (fun i d1 d2=>∃out:List YI,out.length=8∧(∀j x,j<i→out[j]? =some x→0≤x.1∧x.1≤4294967295)∧d1=(h,out,l,(l.length:Int),(i:Int),())∧d2=(h,out,l,(i:Int),()))
  (fun o1 o2=>o1=o2∧o1.1.length=8∧Cu o1.1=true) 8
  (by
   rintro i d1 d2 hi ⟨out,ho,hb,rfl,rfl⟩
   left
   obtain⟨x,hx⟩: ∃x,h[i]? =some x:=⟨_,List.getElem?_eq_getElem zq0⟩
   obtain⟨y,hy⟩: ∃y,l[i]? =some y:=⟨_,List.getElem?_eq_getElem zq0⟩
   obtain⟨q,hq⟩: ∃q,out[i]? =some q:=⟨_,List.getElem?_eq_getElem zq0⟩
   unfold Cq Cr
   simp only[Ad,Af,Ac,Aj]
   rw[Ah zq0,Ah zq0,Ay,Ay]
   simp only[B8 hx,B8 hy,B8 hq,Ae,Aei,Int.toNat_natCast]
   rw[w64 (n:=(i:Int)+1) zq0]
   refine⟨_,_,rfl,rfl,out.set i (m32 (IntKind.i64.wrap (x.1+y.1)),()),by simp[ho],fun j v hj hv=>?_,rfl,rfl⟩
   rw[List.getElem?_set]at hv
   split at hv
   ·rename_i e
    subst e
    split at hv
    ·simp at hv;subst hv;exact Alq _
    ·cases hv
   ·exact hb j v zq0 hv)
  (by
   rintro d1 d2 ⟨out,ho,hb,rfl,rfl⟩
   unfold Cq Cr
   simp only[Ad,Af,Ac,Aj]
   rw[Aq zq0,Am]
   refine⟨_,_,rfl,rfl,rfl,ho,?_⟩
   rw[Afp]
   intro j x hx
   exact hb j x (by have:=(List.getElem?_eq_some_iff.1 hx).1;dsimp only at this;omega) hx)
  (d1:=(h,h,l,(l.length:Int),(0:Int),())) (d2:=(h,h,l,(0:Int),())) ⟨h,hh,fun j x hj=>by omega,rfl,rfl⟩
 obtain⟨rfl,hq1,hq2⟩:=hq
 exact⟨o1.1,hq1,hq2,h1,h2⟩
theorem Nd (h:List YI) (b:List YB) (hh:h.length≤1073741824) (hb:b.length≤4294967296):
  ∃r,Fw (h,()) (b,())=some (r,())∧Ij (h,()) (b,())=some (r,())∧r.length=h.length∧(Cu h=true→Cu r=true):=by
 obtain⟨w,hw1,hw2,hw3⟩:=Adu b hb
 unfold Fw Ic Ij Ii
 simp only[Ad,Af,Ac,Aj,List.nil_append,List.length_nil,Nat.zero_add]
 rw[Ah zq0,Aw,Aw,V0 _ _ zq0,Ahf _ zq0,Ae,Ae]
 cases hwb:(Cu h && ((h.length:Int)==8))with
 |false=>exact⟨h,rfl,rfl,rfl,id⟩
 |true=>
  have hlen:h.length=8:=by simp at hwb;omega
  have hwd:Cu h=true:=by simp at hwb;exact hwb.1
  simp only[Bool.not_true,Am]
  by_cases hb64:b.length=64
  ·rw[Ki (by simp[hb64]),Ki (by simp[hb64]),hw1,hw2,Als]
   simp only[Ae]
   match h,hlen with
   |[x0,x1,x2,x3,x4,x5,x6,x7],_=>
    simp only[show idx [x0,x1,x2,x3,x4,x5,x6,x7] (0:Int)=some x0 from rfl,show idx [x0,x1,x2,x3,x4,x5,x6,x7] (1:Int)=some x1 from rfl,show idx [x0,x1,x2,x3,x4,x5,x6,x7] (2:Int)=some x2 from rfl,show idx [x0,x1,x2,x3,x4,x5,x6,x7] (3:Int)=some x3 from rfl,
     show idx [x0,x1,x2,x3,x4,x5,x6,x7] (4:Int)=some x4 from rfl,show idx [x0,x1,x2,x3,x4,x5,x6,x7] (5:Int)=some x5 from rfl,show idx [x0,x1,x2,x3,x4,x5,x6,x7] (6:Int)=some x6 from rfl,show idx [x0,x1,x2,x3,x4,x5,x6,x7] (7:Int)=some x7 from rfl,Ae]
    obtain⟨a',b',c',d',e',f',g',z',q1,q2⟩:=Ahh [x0,x1,x2,x3,x4,x5,x6,x7] [x0,x1,x2,x3,x4,x5,x6,x7] w (hw3 hb64) x0.1 x1.1 x2.1 x3.1 x4.1 x5.1 x6.1 x7.1
    rw[q1,q2]
    simp only[Ae]
    obtain⟨r,r1,r2,r3,r4⟩:=Aj0 [x0,x1,x2,x3,x4,x5,x6,x7] [(a',()),(b',()),(c',()),(d',()),(e',()),(f',()),(g',()),(z',())] rfl rfl
    rw[r3,r4]
    exact⟨r,rfl,rfl,r1,fun _=>r2⟩
  ·have h': ¬((b.length:Int)=64):=by omega
   rw[Sp (by simpa using h'),Sp (by simpa using h')]
   exact⟨h,rfl,rfl,rfl,id⟩
def Dj (h:List YI) (b:List YB):List YI:=match Fw (h,()) (b,())with|some r=>r.1|none=>[]
theorem Afq (h:List YI) (b:List YB) (hh:h.length≤1073741824) (hb:b.length≤4294967296):Fw (h,()) (b,())=some (Dj h b,()):=by
 obtain⟨r,h1,h2,_⟩:=Nd h b hh hb
 unfold Dj;rw[h1]
theorem Afr (h:List YI) (b:List YB) (hh:h.length≤1073741824) (hb:b.length≤4294967296):Ij (h,()) (b,())=some (Dj h b,()):=by
 obtain⟨r,h1,h2,_⟩:=Nd h b hh hb
 unfold Dj;rw[h1,h2]
theorem Lh (h:List YI) (b:List YB) (hh:h.length≤1073741824) (hb:b.length≤4294967296):(Dj h b).length=h.length∧(Cu h=true→Cu (Dj h b)=true):=by
 obtain⟨r,h1,h2,h3,h4⟩:=Nd h b hh hb
 unfold Dj;rw[h1];exact⟨h3,h4⟩
end
end Go.Proofs.Ytmhhajdeafijmaa
