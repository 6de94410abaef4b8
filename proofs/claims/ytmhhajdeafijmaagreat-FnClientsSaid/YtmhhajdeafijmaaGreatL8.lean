/-
  That the program and the reference answer alike, in plain terms, and that the laws answer true.
-/
import Derived.Test.YtmhhajdeafijmaaGreatL7
namespace Go.Proofs.YtmhhajdeafijmaaGreat
open Go.RowKit
set_option linter.unusedVariables false
set_option linter.unusedSimpArgs false
set_option maxHeartbeats 4000000
noncomputable section
def kL:List YI:=Mi.map fun x=>(x,())
theorem Bdm:A27=some (kL,()):=rfl
theorem A2h (n:YI):Ajj n=some (Sb n.1,()):=rfl
theorem Bdn (i:Nat) (h:i<64):idx kL (i:Int)=some (Sb (i:Int),()):=by
 rw[A4x]
 unfold kL Sb
 rw[List.getElem?_map,if_pos zq0,Int.toNat_natCast]
 have:i<Mi.length:=by simpa [Mi] using h
 rw[List.getElem?_eq_getElem this];rfl
theorem A7a (l:List YI) (hl:l.length≤4294967296):Ab6 (l,())=some (Du l && ((l.length:Int)==8),()):=by
 have h:=Abd (B:=Jt) l (fun i=>(l,(i:Int),())) (fun _ e=> !inR e.1 0 4294967295) (false,()) (l,())
  (fun i x hi hx=>by
   unfold Jt
   simp (disch:=omega) only[Aj,Al,Af,O9 hi,Az,Di hx,An,Cz,w64]
   rfl)
  (by unfold Jt;simp only[Aj,Al,Af,Pa,Aw])
 unfold Ab6 Ab5
 simp only[Al,Sj,Af]
 rw[show((0:Int))=((0:Nat):Int)from rfl,h]
 unfold Du
 cases Rt (fun _ (e:YI)=> !inR e.1 0 4294967295) l<;>rfl
theorem A7b (x:BitVec IntKind.i64.bits):BitVec.ofInt (IntKind.i64.bits) (4294967295:Int) ^^^ x=x ^^^ BitVec.ofInt (IntKind.i64.bits) (4294967295:Int):=BitVec.xor_comm _ _
theorem Wx {l:List YI}:Du l=true↔ ∀(j:Nat) (x:YI),l[j]? =some x→0≤x.1∧x.1≤4294967295:=by
 unfold Du
 rw[A3h]
 simp only[Bool.not_eq_false',Bt]
theorem A7c (h out w:List YI) (hw:w.length=64) (a b c d e f g z:Int):
  ∃a' b' c' d' e' f' g' z',A1 Fh (h,out,w,a,b,c,d,e,f,g,z,(0:Int),())=some (h,out,a',b',c',d',e',f',g',z',())∧
   A1 Fg (h,out,kL,w,a,b,c,d,e,f,g,z,(0:Int),())=some (h,out,a',b',c',d',e',f',g',z',()):=by
 obtain⟨o1,o2,h1,h2,hq⟩:=Z7 (B1:=Fh) (B2:=Fg)
  (fun i d1 d2=>∃a b c d e f g z:Int,d1=(h,out,w,a,b,c,d,e,f,g,z,(i:Int),())∧d2=(h,out,kL,w,a,b,c,d,e,f,g,z,(i:Int),()))
  (fun o1 o2=>o1=o2∧ ∃a b c d e f g z:Int,o1=(h,out,a,b,c,d,e,f,g,z,())) 64
  (by
   rintro i d1 d2 hi ⟨a,b,c,d,e,f,g,z,rfl,rfl⟩
   left
   obtain⟨x,hx⟩: ∃x,w[i]? =some x:=⟨_,List.getElem?_eq_getElem zq0⟩
   have hk:=Bdn i hi
   unfold Fh Fg
   simp only[Aj,Al,Af,Aq]
   rw[Ap zq0,Az,Az]
   simp (disch:=decide) only[As0,As1,An,A2h,Di hx,hk,A3g,A7b]
   rw[w64 (n:=(i:Int)+1) zq0]
   refine⟨_,_,rfl,rfl,_,_,_,_,_,_,_,_,rfl,?_⟩
   simp only[Prod.mk.injEq,true_and,and_true]
   exact⟨A9k _ _,A9j _ _,by omega⟩)
  (by
   rintro d1 d2 ⟨a,b,c,d,e,f,g,z,rfl,rfl⟩
   unfold Fh Fg
   simp only[Aj,Al,Af,Aq]
   exact⟨_,_,rfl,rfl,rfl,_,_,_,_,_,_,_,_,rfl⟩)
  (d1:=(h,out,w,a,b,c,d,e,f,g,z,(0:Int),())) (d2:=(h,out,kL,w,a,b,c,d,e,f,g,z,(0:Int),())) ⟨a,b,c,d,e,f,g,z,rfl,rfl⟩
 obtain⟨rfl,a',b',c',d',e',f',g',z',rfl⟩:=hq
 exact⟨_,_,_,_,_,_,_,_,h1,h2⟩
theorem Ba7 (h l:List YI) (hh:h.length=8) (hl:l.length=8): ∃r:List YI,r.length=8∧Du r=true∧A1 Ey (h,h,l,(l.length:Int),(0:Int),())=some (r,())∧A1 Ew (h,h,l,(0:Int),())=some (r,()):=by
 obtain⟨o1,o2,h1,h2,hq⟩:=Z7 (B1:=Ey) (B2:=Ew)
  (fun i d1 d2=>∃out:List YI,out.length=8∧(∀j x,j<i→out[j]? =some x→0≤x.1∧x.1≤4294967295)∧d1=(h,out,l,(l.length:Int),(i:Int),())∧d2=(h,out,l,(i:Int),()))
  (fun o1 o2=>o1=o2∧o1.1.length=8∧Du o1.1=true) 8
  (by
   rintro i d1 d2 hi ⟨out,ho,hb,rfl,rfl⟩
   left
   obtain⟨x,hx⟩: ∃x,h[i]? =some x:=⟨_,List.getElem?_eq_getElem zq0⟩
   obtain⟨y,hy⟩: ∃y,l[i]? =some y:=⟨_,List.getElem?_eq_getElem zq0⟩
   obtain⟨q,hq⟩: ∃q,out[i]? =some q:=⟨_,List.getElem?_eq_getElem zq0⟩
   unfold Ey Ew
   simp only[Aj,Al,Af,Aq]
   rw[Ap zq0,Ap zq0,Az,Az]
   simp only[Di hx,Di hy,Di hq,An,A3g,Int.toNat_natCast]
   rw[w64 (n:=(i:Int)+1) zq0]
   refine⟨_,_,rfl,rfl,out.set i (m32 (IntKind.i64.wrap (x.1+y.1)),()),by simp[ho],fun j v hj hv=>?_,rfl,rfl⟩
   rw[List.getElem?_set]at hv
   split at hv
   ·rename_i e
    subst e
    split at hv
    ·simp at hv;subst hv;exact Bdk _
    ·cases hv
   ·exact hb j v zq0 hv)
  (by
   rintro d1 d2 ⟨out,ho,hb,rfl,rfl⟩
   unfold Ey Ew
   simp only[Aj,Al,Af,Aq]
   rw[Bg zq0,Aw]
   refine⟨_,_,rfl,rfl,rfl,ho,?_⟩
   rw[Wx]
   intro j x hx
   exact hb j x (by have:=(List.getElem?_eq_some_iff.1 hx).1;dsimp only at this;omega) hx)
  (d1:=(h,h,l,(l.length:Int),(0:Int),())) (d2:=(h,h,l,(0:Int),())) ⟨h,hh,fun j x hj=>by omega,rfl,rfl⟩
 obtain⟨rfl,hq1,hq2⟩:=hq
 exact⟨o1.1,hq1,hq2,h1,h2⟩
theorem Adj (h:List YI) (b:List YB) (hh:h.length≤1073741824) (hb:b.length≤4294967296):
  ∃r,Kv (h,()) (b,())=some (r,())∧N8 (h,()) (b,())=some (r,())∧r.length=h.length∧(Du h=true→Du r=true):=by
 obtain⟨w,hw1,hw2,hw3⟩:=A2g b hb
 unfold Kv Oi N8 N7
 simp only[Aj,Al,Af,Aq,List.nil_append,List.length_nil,Nat.zero_add]
 rw[Ap zq0,Bd,Bd,Ah6 _ _ zq0,A7a _ zq0,An,An]
 cases hwb:(Du h && ((h.length:Int)==8))with
 |false=>exact⟨h,rfl,rfl,rfl,id⟩
 |true=>
  have hlen:h.length=8:=by simp at hwb;omega
  have hwd:Du h=true:=by simp at hwb;exact hwb.1
  simp only[Bool.not_true,Aw]
  by_cases hb64:b.length=64
  ·rw[Cp (by simp[hb64]),Cp (by simp[hb64]),hw1,hw2,Bdm]
   simp only[An]
   match h,hlen with
   |[x0,x1,x2,x3,x4,x5,x6,x7],_=>
    simp only[show idx [x0,x1,x2,x3,x4,x5,x6,x7] (0:Int)=some x0 from rfl,show idx [x0,x1,x2,x3,x4,x5,x6,x7] (1:Int)=some x1 from rfl,show idx [x0,x1,x2,x3,x4,x5,x6,x7] (2:Int)=some x2 from rfl,show idx [x0,x1,x2,x3,x4,x5,x6,x7] (3:Int)=some x3 from rfl,
     show idx [x0,x1,x2,x3,x4,x5,x6,x7] (4:Int)=some x4 from rfl,show idx [x0,x1,x2,x3,x4,x5,x6,x7] (5:Int)=some x5 from rfl,show idx [x0,x1,x2,x3,x4,x5,x6,x7] (6:Int)=some x6 from rfl,show idx [x0,x1,x2,x3,x4,x5,x6,x7] (7:Int)=some x7 from rfl,An]
    obtain⟨a',b',c',d',e',f',g',z',q1,q2⟩:=A7c [x0,x1,x2,x3,x4,x5,x6,x7] [x0,x1,x2,x3,x4,x5,x6,x7] w (hw3 hb64) x0.1 x1.1 x2.1 x3.1 x4.1 x5.1 x6.1 x7.1
    rw[q1,q2]
    simp only[An]
    obtain⟨r,r1,r2,r3,r4⟩:=Ba7 [x0,x1,x2,x3,x4,x5,x6,x7] [(a',()),(b',()),(c',()),(d',()),(e',()),(f',()),(g',()),(z',())] rfl rfl
    rw[r3,r4]
    exact⟨r,rfl,rfl,r1,fun _=>r2⟩
  ·have h': ¬((b.length:Int)=64):=by omega
   rw[D6 (by simpa using h'),D6 (by simpa using h')]
   exact⟨h,rfl,rfl,rfl,id⟩
def F8 (h:List YI) (b:List YB):List YI:=match Kv (h,()) (b,())with|some r=>r.1|none=>[]
theorem A40 (h:List YI) (b:List YB) (hh:h.length≤1073741824) (hb:b.length≤4294967296):Kv (h,()) (b,())=some (F8 h b,()):=by
 obtain⟨r,h1,h2,_⟩:=Adj h b hh hb
 unfold F8;rw[h1]
theorem A41 (h:List YI) (b:List YB) (hh:h.length≤1073741824) (hb:b.length≤4294967296):N8 (h,()) (b,())=some (F8 h b,()):=by
 obtain⟨r,h1,h2,_⟩:=Adj h b hh hb
 unfold F8;rw[h1,h2]
theorem Z8 (h:List YI) (b:List YB) (hh:h.length≤1073741824) (hb:b.length≤4294967296):(F8 h b).length=h.length∧(Du h=true→Du (F8 h b)=true):=by
 obtain⟨r,h1,h2,h3,h4⟩:=Adj h b hh hb
 unfold F8;rw[h1];exact⟨h3,h4⟩
end
end Go.Proofs.YtmhhajdeafijmaaGreat
