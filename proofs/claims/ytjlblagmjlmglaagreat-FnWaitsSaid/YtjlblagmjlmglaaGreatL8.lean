/-
  That the program and the reference answer alike, in plain terms, and that the laws answer true.
-/
import Derived.Test.YtjlblagmjlmglaaGreatL7
namespace Go.Proofs.YtjlblagmjlmglaaGreat
open Go.RowKit
set_option linter.unusedVariables false
set_option linter.unusedSimpArgs false
set_option maxHeartbeats 4000000
noncomputable section
def kL:List YI:=Mi.map fun x=>(x,())
theorem Bdn:A21=some (kL,()):=rfl
theorem A15 (n:YI):Ajb n=some (R7 n.1,()):=rfl
theorem Bdo (i:Nat) (h:i<64):idx kL (i:Int)=some (R7 (i:Int),()):=by
 rw[A4p]
 unfold kL R7
 rw[List.getElem?_map,if_pos zq0,Int.toNat_natCast]
 have:i<Mi.length:=by simpa [Mi] using h
 rw[List.getElem?_eq_getElem this];rfl
theorem A64 (l:List YI) (hl:l.length≤4294967296):Acs (l,())=some (D3 l && ((l.length:Int)==8),()):=by
 have h:=Aa4 (B:=Jz) l (fun i=>(l,(i:Int),())) (fun _ e=> !inR e.1 0 4294967295) (false,()) (l,())
  (fun i x hi hx=>by
   unfold Jz
   simp (disch:=omega) only[Ai,Aj,Ad,Zw hi,Ax,Dz hx,Al,Bv,w64]
   rfl)
  (by unfold Jz;simp only[Ai,Aj,Ad,Zx,Aq])
 unfold Acs Ab2
 simp only[Aj,Zz,Ad]
 rw[show((0:Int))=((0:Nat):Int)from rfl,h]
 unfold D3
 cases Rv (fun _ (e:YI)=> !inR e.1 0 4294967295) l<;>rfl
theorem A65 (x:BitVec IntKind.i64.bits):BitVec.ofInt (IntKind.i64.bits) (4294967295:Int) ^^^ x=x ^^^ BitVec.ofInt (IntKind.i64.bits) (4294967295:Int):=BitVec.xor_comm _ _
theorem Wx {l:List YI}:D3 l=true↔ ∀(j:Nat) (x:YI),l[j]? =some x→0≤x.1∧x.1≤4294967295:=by
 unfold D3
 rw[A26]
 simp only[Bool.not_eq_false',Bf]
theorem A66 (h out w:List YI) (hw:w.length=64) (a b c d e f g z:Int):
  ∃a' b' c' d' e' f' g' z',Az Fm (h,out,w,a,b,c,d,e,f,g,z,(0:Int),())=some (h,out,a',b',c',d',e',f',g',z',())∧
   Az Fl (h,out,kL,w,a,b,c,d,e,f,g,z,(0:Int),())=some (h,out,a',b',c',d',e',f',g',z',()):=by
 obtain⟨o1,o2,h1,h2,hq⟩:=Z3 (B1:=Fm) (B2:=Fl)
  (fun i d1 d2=>∃a b c d e f g z:Int,d1=(h,out,w,a,b,c,d,e,f,g,z,(i:Int),())∧d2=(h,out,kL,w,a,b,c,d,e,f,g,z,(i:Int),()))
  (fun o1 o2=>o1=o2∧ ∃a b c d e f g z:Int,o1=(h,out,a,b,c,d,e,f,g,z,())) 64
  (by
   rintro i d1 d2 hi ⟨a,b,c,d,e,f,g,z,rfl,rfl⟩
   left
   obtain⟨x,hx⟩: ∃x,w[i]? =some x:=⟨_,List.getElem?_eq_getElem zq0⟩
   have hk:=Bdo i hi
   unfold Fm Fl
   simp only[Ai,Aj,Ad,Ap]
   rw[Ao zq0,Ax,Ax]
   simp (disch:=decide) only[Aso,Asp,Al,A15,Dz hx,hk,A25,A65]
   rw[w64 (n:=(i:Int)+1) zq0]
   refine⟨_,_,rfl,rfl,_,_,_,_,_,_,_,_,rfl,?_⟩
   simp only[Prod.mk.injEq,true_and,and_true]
   exact⟨A9h _ _,A9g _ _,by omega⟩)
  (by
   rintro d1 d2 ⟨a,b,c,d,e,f,g,z,rfl,rfl⟩
   unfold Fm Fl
   simp only[Ai,Aj,Ad,Ap]
   exact⟨_,_,rfl,rfl,rfl,_,_,_,_,_,_,_,_,rfl⟩)
  (d1:=(h,out,w,a,b,c,d,e,f,g,z,(0:Int),())) (d2:=(h,out,kL,w,a,b,c,d,e,f,g,z,(0:Int),())) ⟨a,b,c,d,e,f,g,z,rfl,rfl⟩
 obtain⟨rfl,a',b',c',d',e',f',g',z',rfl⟩:=hq
 exact⟨_,_,_,_,_,_,_,_,h1,h2⟩
theorem Ba3 (h l:List YI) (hh:h.length=8) (hl:l.length=8): ∃r:List YI,r.length=8∧D3 r=true∧Az E8 (h,h,l,(l.length:Int),(0:Int),())=some (r,())∧Az E7 (h,h,l,(0:Int),())=some (r,()):=by
 obtain⟨o1,o2,h1,h2,hq⟩:=Z3 (B1:=E8) (B2:=E7)
  (fun i d1 d2=>∃out:List YI,out.length=8∧(∀j x,j<i→out[j]? =some x→0≤x.1∧x.1≤4294967295)∧d1=(h,out,l,(l.length:Int),(i:Int),())∧d2=(h,out,l,(i:Int),()))
  (fun o1 o2=>o1=o2∧o1.1.length=8∧D3 o1.1=true) 8
  (by
   rintro i d1 d2 hi ⟨out,ho,hb,rfl,rfl⟩
   left
   obtain⟨x,hx⟩: ∃x,h[i]? =some x:=⟨_,List.getElem?_eq_getElem zq0⟩
   obtain⟨y,hy⟩: ∃y,l[i]? =some y:=⟨_,List.getElem?_eq_getElem zq0⟩
   obtain⟨q,hq⟩: ∃q,out[i]? =some q:=⟨_,List.getElem?_eq_getElem zq0⟩
   unfold E8 E7
   simp only[Ai,Aj,Ad,Ap]
   rw[Ao zq0,Ao zq0,Ax,Ax]
   simp only[Dz hx,Dz hy,Dz hq,Al,A25,Int.toNat_natCast]
   rw[w64 (n:=(i:Int)+1) zq0]
   refine⟨_,_,rfl,rfl,out.set i (m32 (IntKind.i64.wrap (x.1+y.1)),()),by simp[ho],fun j v hj hv=>?_,rfl,rfl⟩
   rw[List.getElem?_set]at hv
   split at hv
   ·rename_i e
    subst e
    split at hv
    ·simp at hv;subst hv;exact Bdl _
    ·cases hv
   ·exact hb j v zq0 hv)
  (by
   rintro d1 d2 ⟨out,ho,hb,rfl,rfl⟩
   unfold E8 E7
   simp only[Ai,Aj,Ad,Ap]
   rw[Bb zq0,Aq]
   refine⟨_,_,rfl,rfl,rfl,ho,?_⟩
   rw[Wx]
   intro j x hx
   exact hb j x (by have:=(List.getElem?_eq_some_iff.1 hx).1;dsimp only at this;omega) hx)
  (d1:=(h,h,l,(l.length:Int),(0:Int),())) (d2:=(h,h,l,(0:Int),())) ⟨h,hh,fun j x hj=>by omega,rfl,rfl⟩
 obtain⟨rfl,hq1,hq2⟩:=hq
 exact⟨o1.1,hq1,hq2,h1,h2⟩
theorem Ac7 (h:List YI) (b:List YB) (hh:h.length≤1073741824) (hb:b.length≤4294967296):
  ∃r,Ld (h,()) (b,())=some (r,())∧Ox (h,()) (b,())=some (r,())∧r.length=h.length∧(D3 h=true→D3 r=true):=by
 obtain⟨w,hw1,hw2,hw3⟩:=A14 b hb
 unfold Ld On Ox Oc
 simp only[Ai,Aj,Ad,Ap,List.nil_append,List.length_nil,Nat.zero_add]
 rw[Ao zq0,A8,A8,Ahp _ _ zq0,A64 _ zq0,Al,Al]
 cases hwb:(D3 h && ((h.length:Int)==8))with
 |false=>exact⟨h,rfl,rfl,rfl,id⟩
 |true=>
  have hlen:h.length=8:=by simp at hwb;omega
  have hwd:D3 h=true:=by simp at hwb;exact hwb.1
  simp only[Bool.not_true,Aq]
  by_cases hb64:b.length=64
  ·rw[Co (by simp[hb64]),Co (by simp[hb64]),hw1,hw2,Bdn]
   simp only[Al]
   match h,hlen with
   |[x0,x1,x2,x3,x4,x5,x6,x7],_=>
    simp only[show idx [x0,x1,x2,x3,x4,x5,x6,x7] (0:Int)=some x0 from rfl,show idx [x0,x1,x2,x3,x4,x5,x6,x7] (1:Int)=some x1 from rfl,show idx [x0,x1,x2,x3,x4,x5,x6,x7] (2:Int)=some x2 from rfl,show idx [x0,x1,x2,x3,x4,x5,x6,x7] (3:Int)=some x3 from rfl,
     show idx [x0,x1,x2,x3,x4,x5,x6,x7] (4:Int)=some x4 from rfl,show idx [x0,x1,x2,x3,x4,x5,x6,x7] (5:Int)=some x5 from rfl,show idx [x0,x1,x2,x3,x4,x5,x6,x7] (6:Int)=some x6 from rfl,show idx [x0,x1,x2,x3,x4,x5,x6,x7] (7:Int)=some x7 from rfl,Al]
    obtain⟨a',b',c',d',e',f',g',z',q1,q2⟩:=A66 [x0,x1,x2,x3,x4,x5,x6,x7] [x0,x1,x2,x3,x4,x5,x6,x7] w (hw3 hb64) x0.1 x1.1 x2.1 x3.1 x4.1 x5.1 x6.1 x7.1
    rw[q1,q2]
    simp only[Al]
    obtain⟨r,r1,r2,r3,r4⟩:=Ba3 [x0,x1,x2,x3,x4,x5,x6,x7] [(a',()),(b',()),(c',()),(d',()),(e',()),(f',()),(g',()),(z',())] rfl rfl
    rw[r3,r4]
    exact⟨r,rfl,rfl,r1,fun _=>r2⟩
  ·have h': ¬((b.length:Int)=64):=by omega
   rw[Ec (by simpa using h'),Ec (by simpa using h')]
   exact⟨h,rfl,rfl,rfl,id⟩
def Gg (h:List YI) (b:List YB):List YI:=match Ld (h,()) (b,())with|some r=>r.1|none=>[]
theorem A4s (h:List YI) (b:List YB) (hh:h.length≤1073741824) (hb:b.length≤4294967296):Ld (h,()) (b,())=some (Gg h b,()):=by
 obtain⟨r,h1,h2,_⟩:=Ac7 h b hh hb
 unfold Gg;rw[h1]
theorem A4t (h:List YI) (b:List YB) (hh:h.length≤1073741824) (hb:b.length≤4294967296):Ox (h,()) (b,())=some (Gg h b,()):=by
 obtain⟨r,h1,h2,_⟩:=Ac7 h b hh hb
 unfold Gg;rw[h1,h2]
theorem Z4 (h:List YI) (b:List YB) (hh:h.length≤1073741824) (hb:b.length≤4294967296):(Gg h b).length=h.length∧(D3 h=true→D3 (Gg h b)=true):=by
 obtain⟨r,h1,h2,h3,h4⟩:=Ac7 h b hh hb
 unfold Gg;rw[h1];exact⟨h3,h4⟩
end
end Go.Proofs.YtjlblagmjlmglaaGreat
