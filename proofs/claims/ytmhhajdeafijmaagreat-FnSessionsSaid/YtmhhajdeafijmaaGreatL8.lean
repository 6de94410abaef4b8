/-
  That the program and the reference answer alike, in plain terms, and that the laws answer true.
-/
import Derived.Test.YtmhhajdeafijmaaGreatL7
namespace Go.Proofs.YtmhhajdeafijmaaGreat
open Go.RowKit
set_option linter.unusedVariables false
set_option linter.unusedSimpArgs false
set_option maxHeartbeats 4000000
noncomputable section
def kL:List YI:=N4.map fun x=>(x,())
theorem Ba0:A05=some (kL,()):=rfl
theorem Az7 (n:YI):Ahg n=some (Tw n.1,()):=rfl
theorem Ba1 (i:Nat) (h:i<64):idx kL (i:Int)=some (Tw (i:Int),()):=by
 rw[A2u]
 unfold kL Tw
 rw[List.getElem?_map,if_pos zq0,Int.toNat_natCast]
 have:i<N4.length:=by simpa [N4] using h
 rw[List.getElem?_eq_getElem this];rfl
theorem A40 (l:List YI) (hl:l.length≤4294967296):Abc (l,())=some (Ei l && ((l.length:Int)==8),()):=by
 have h:=Kb (B:=K8) l (fun i=>(l,(i:Int),())) (fun _ e=> !inR e.1 0 4294967295) (false,()) (l,())
  (fun i x hi hx=>by
   unfold K8
   simp (disch:=omega) only[Ae,Ai,Ac,Et hi,A0,Cb hx,Ag,Cz,w64]
   rfl)
  (by unfold K8;simp only[Ae,Ai,Ac,Eu,An])
 unfold Abc Aal
 simp only[Ai,Hb,Ac]
 rw[show((0:Int))=((0:Nat):Int)from rfl,h]
 unfold Ei
 cases Hj (fun _ (e:YI)=> !inR e.1 0 4294967295) l<;>rfl
theorem A41 (x:BitVec IntKind.i64.bits):BitVec.ofInt (IntKind.i64.bits) (4294967295:Int) ^^^ x=x ^^^ BitVec.ofInt (IntKind.i64.bits) (4294967295:Int):=BitVec.xor_comm _ _
theorem Vt {l:List YI}:Ei l=true↔ ∀(j:Nat) (x:YI),l[j]? =some x→0≤x.1∧x.1≤4294967295:=by
 unfold Ei
 rw[Akp]
 simp only[Bool.not_eq_false',Bp]
theorem A42 (h out w:List YI) (hw:w.length=64) (a b c d e f g z:Int):
  ∃a' b' c' d' e' f' g' z',Ay F4 (h,out,w,a,b,c,d,e,f,g,z,(0:Int),())=some (h,out,a',b',c',d',e',f',g',z',())∧
   Ay F2 (h,out,kL,w,a,b,c,d,e,f,g,z,(0:Int),())=some (h,out,a',b',c',d',e',f',g',z',()):=by
 obtain⟨o1,o2,h1,h2,hq⟩:=Xk (B1:=F4) (B2:=F2)
  (fun i d1 d2=>∃a b c d e f g z:Int,d1=(h,out,w,a,b,c,d,e,f,g,z,(i:Int),())∧d2=(h,out,kL,w,a,b,c,d,e,f,g,z,(i:Int),()))
  (fun o1 o2=>o1=o2∧ ∃a b c d e f g z:Int,o1=(h,out,a,b,c,d,e,f,g,z,())) 64
  (by
   rintro i d1 d2 hi ⟨a,b,c,d,e,f,g,z,rfl,rfl⟩
   left
   obtain⟨x,hx⟩: ∃x,w[i]? =some x:=⟨_,List.getElem?_eq_getElem zq0⟩
   have hk:=Ba1 i hi
   unfold F4 F2
   simp only[Ae,Ai,Ac,Ak]
   rw[Am zq0,A0,A0]
   simp (disch:=decide) only[Aqc,Aqd,Ag,Az7,Cb hx,hk,A1a,A41]
   rw[w64 (n:=(i:Int)+1) zq0]
   refine⟨_,_,rfl,rfl,_,_,_,_,_,_,_,_,rfl,?_⟩
   simp only[Prod.mk.injEq,true_and,and_true]
   exact⟨A67 _ _,A66 _ _,by omega⟩)
  (by
   rintro d1 d2 ⟨a,b,c,d,e,f,g,z,rfl,rfl⟩
   unfold F4 F2
   simp only[Ae,Ai,Ac,Ak]
   exact⟨_,_,rfl,rfl,rfl,_,_,_,_,_,_,_,_,rfl⟩)
  (d1:=(h,out,w,a,b,c,d,e,f,g,z,(0:Int),())) (d2:=(h,out,kL,w,a,b,c,d,e,f,g,z,(0:Int),())) ⟨a,b,c,d,e,f,g,z,rfl,rfl⟩
 obtain⟨rfl,a',b',c',d',e',f',g',z',rfl⟩:=hq
 exact⟨_,_,_,_,_,_,_,_,h1,h2⟩
theorem A8v (h l:List YI) (hh:h.length=8) (hl:l.length=8): ∃r:List YI,r.length=8∧Ei r=true∧Ay Fm (h,h,l,(l.length:Int),(0:Int),())=some (r,())∧Ay Fl (h,h,l,(0:Int),())=some (r,()):=by
 obtain⟨o1,o2,h1,h2,hq⟩:=Xk (B1:=Fm) (B2:=Fl)
  (fun i d1 d2=>∃out:List YI,out.length=8∧(∀j x,j<i→out[j]? =some x→0≤x.1∧x.1≤4294967295)∧d1=(h,out,l,(l.length:Int),(i:Int),())∧d2=(h,out,l,(i:Int),()))
  (fun o1 o2=>o1=o2∧o1.1.length=8∧Ei o1.1=true) 8
  (by
   rintro i d1 d2 hi ⟨out,ho,hb,rfl,rfl⟩
   left
   obtain⟨x,hx⟩: ∃x,h[i]? =some x:=⟨_,List.getElem?_eq_getElem zq0⟩
   obtain⟨y,hy⟩: ∃y,l[i]? =some y:=⟨_,List.getElem?_eq_getElem zq0⟩
   obtain⟨q,hq⟩: ∃q,out[i]? =some q:=⟨_,List.getElem?_eq_getElem zq0⟩
   unfold Fm Fl
   simp only[Ae,Ai,Ac,Ak]
   rw[Am zq0,Am zq0,A0,A0]
   simp only[Cb hx,Cb hy,Cb hq,Ag,A1a,Int.toNat_natCast]
   rw[w64 (n:=(i:Int)+1) zq0]
   refine⟨_,_,rfl,rfl,out.set i (m32 (IntKind.i64.wrap (x.1+y.1)),()),by simp[ho],fun j v hj hv=>?_,rfl,rfl⟩
   rw[List.getElem?_set]at hv
   split at hv
   ·rename_i e
    subst e
    split at hv
    ·simp at hv;subst hv;exact Bay _
    ·cases hv
   ·exact hb j v zq0 hv)
  (by
   rintro d1 d2 ⟨out,ho,hb,rfl,rfl⟩
   unfold Fm Fl
   simp only[Ae,Ai,Ac,Ak]
   rw[Bj zq0,An]
   refine⟨_,_,rfl,rfl,rfl,ho,?_⟩
   rw[Vt]
   intro j x hx
   exact hb j x (by have:=(List.getElem?_eq_some_iff.1 hx).1;dsimp only at this;omega) hx)
  (d1:=(h,h,l,(l.length:Int),(0:Int),())) (d2:=(h,h,l,(0:Int),())) ⟨h,hh,fun j x hj=>by omega,rfl,rfl⟩
 obtain⟨rfl,hq1,hq2⟩:=hq
 exact⟨o1.1,hq1,hq2,h1,h2⟩
theorem Abn (h:List YI) (b:List YB) (hh:h.length≤1073741824) (hb:b.length≤4294967296):
  ∃r,Mk (h,()) (b,())=some (r,())∧Qx (h,()) (b,())=some (r,())∧r.length=h.length∧(Ei h=true→Ei r=true):=by
 obtain⟨w,hw1,hw2,hw3⟩:=Az6 b hb
 unfold Mk Qp Qx Qe
 simp only[Ae,Ai,Ac,Ak,List.nil_append,List.length_nil,Nat.zero_add]
 rw[Am zq0,Ba,Ba,Aft _ _ zq0,A40 _ zq0,Ag,Ag]
 cases hwb:(Ei h && ((h.length:Int)==8))with
 |false=>exact⟨h,rfl,rfl,rfl,id⟩
 |true=>
  have hlen:h.length=8:=by simp at hwb;omega
  have hwd:Ei h=true:=by simp at hwb;exact hwb.1
  simp only[Bool.not_true,An]
  by_cases hb64:b.length=64
  ·rw[C7 (by simp[hb64]),C7 (by simp[hb64]),hw1,hw2,Ba0]
   simp only[Ag]
   match h,hlen with
   |[x0,x1,x2,x3,x4,x5,x6,x7],_=>
    simp only[show idx [x0,x1,x2,x3,x4,x5,x6,x7] (0:Int)=some x0 from rfl,show idx [x0,x1,x2,x3,x4,x5,x6,x7] (1:Int)=some x1 from rfl,show idx [x0,x1,x2,x3,x4,x5,x6,x7] (2:Int)=some x2 from rfl,show idx [x0,x1,x2,x3,x4,x5,x6,x7] (3:Int)=some x3 from rfl,
     show idx [x0,x1,x2,x3,x4,x5,x6,x7] (4:Int)=some x4 from rfl,show idx [x0,x1,x2,x3,x4,x5,x6,x7] (5:Int)=some x5 from rfl,show idx [x0,x1,x2,x3,x4,x5,x6,x7] (6:Int)=some x6 from rfl,show idx [x0,x1,x2,x3,x4,x5,x6,x7] (7:Int)=some x7 from rfl,Ag]
    obtain⟨a',b',c',d',e',f',g',z',q1,q2⟩:=A42 [x0,x1,x2,x3,x4,x5,x6,x7] [x0,x1,x2,x3,x4,x5,x6,x7] w (hw3 hb64) x0.1 x1.1 x2.1 x3.1 x4.1 x5.1 x6.1 x7.1
    rw[q1,q2]
    simp only[Ag]
    obtain⟨r,r1,r2,r3,r4⟩:=A8v [x0,x1,x2,x3,x4,x5,x6,x7] [(a',()),(b',()),(c',()),(d',()),(e',()),(f',()),(g',()),(z',())] rfl rfl
    rw[r3,r4]
    exact⟨r,rfl,rfl,r1,fun _=>r2⟩
  ·have h': ¬((b.length:Int)=64):=by omega
   rw[Fh (by simpa using h'),Fh (by simpa using h')]
   exact⟨h,rfl,rfl,rfl,id⟩
def G7 (h:List YI) (b:List YB):List YI:=match Mk (h,()) (b,())with|some r=>r.1|none=>[]
theorem A2x (h:List YI) (b:List YB) (hh:h.length≤1073741824) (hb:b.length≤4294967296):Mk (h,()) (b,())=some (G7 h b,()):=by
 obtain⟨r,h1,h2,_⟩:=Abn h b hh hb
 unfold G7;rw[h1]
theorem A2y (h:List YI) (b:List YB) (hh:h.length≤1073741824) (hb:b.length≤4294967296):Qx (h,()) (b,())=some (G7 h b,()):=by
 obtain⟨r,h1,h2,_⟩:=Abn h b hh hb
 unfold G7;rw[h1,h2]
theorem Xl (h:List YI) (b:List YB) (hh:h.length≤1073741824) (hb:b.length≤4294967296):(G7 h b).length=h.length∧(Ei h=true→Ei (G7 h b)=true):=by
 obtain⟨r,h1,h2,h3,h4⟩:=Abn h b hh hb
 unfold G7;rw[h1];exact⟨h3,h4⟩
end
end Go.Proofs.YtmhhajdeafijmaaGreat
