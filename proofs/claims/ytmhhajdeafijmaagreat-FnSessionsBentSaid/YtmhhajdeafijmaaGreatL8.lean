/-
  That the program and the reference answer alike, in plain terms, and that the laws answer true.
-/
import Derived.Test.YtmhhajdeafijmaaGreatL7
namespace Go.Proofs.YtmhhajdeafijmaaGreat
open Go.RowKit
set_option linter.unusedVariables false
set_option linter.unusedSimpArgs false
set_option maxHeartbeats 4000000
noncomputable section
def kL:List YI:=Nm.map fun x=>(x,())
theorem Ba1:A01=some (kL,()):=rfl
theorem A0e (n:YI):Agv n=some (Sz n.1,()):=rfl
theorem Ba2 (i:Nat) (h:i<64):idx kL (i:Int)=some (Sz (i:Int),()):=by
 rw[A2m]
 unfold kL Sz
 rw[List.getElem?_map,if_pos zq0,Int.toNat_natCast]
 have:i<Nm.length:=by simpa [Nm] using h
 rw[List.getElem?_eq_getElem this];rfl
theorem A4y (l:List YI) (hl:l.length≤4294967296):Zq (l,())=some (D8 l && ((l.length:Int)==8),()):=by
 have h:=Jt (B:=Kc) l (fun i=>(l,(i:Int),())) (fun _ e=> !inR e.1 0 4294967295) (false,()) (l,())
  (fun i x hi hx=>by
   unfold Kc
   simp (disch:=omega) only[Af,Ah,Ac,En hi,Az,Ce hx,Ai,C4,w64]
   rfl)
  (by unfold Kc;simp only[Af,Ah,Ac,Eo,Ap])
 unfold Zq Zp
 simp only[Ah,Hp,Ac]
 rw[show((0:Int))=((0:Nat):Int)from rfl,h]
 unfold D8
 cases G3 (fun _ (e:YI)=> !inR e.1 0 4294967295) l<;>rfl
theorem A4z (x:BitVec IntKind.i64.bits):BitVec.ofInt (IntKind.i64.bits) (4294967295:Int) ^^^ x=x ^^^ BitVec.ofInt (IntKind.i64.bits) (4294967295:Int):=BitVec.xor_comm _ _
theorem U3 {l:List YI}:D8 l=true↔ ∀(j:Nat) (x:YI),l[j]? =some x→0≤x.1∧x.1≤4294967295:=by
 unfold D8
 rw[Ak1]
 simp only[Bool.not_eq_false',C6]
theorem A40 (h out w:List YI) (hw:w.length=64) (a b c d e f g z:Int):
  ∃a' b' c' d' e' f' g' z',Ay Fs (h,out,w,a,b,c,d,e,f,g,z,(0:Int),())=some (h,out,a',b',c',d',e',f',g',z',())∧
   Ay Fq (h,out,kL,w,a,b,c,d,e,f,g,z,(0:Int),())=some (h,out,a',b',c',d',e',f',g',z',()):=by
 obtain⟨o1,o2,h1,h2,hq⟩:=W1 (B1:=Fs) (B2:=Fq)
  (fun i d1 d2=>∃a b c d e f g z:Int,d1=(h,out,w,a,b,c,d,e,f,g,z,(i:Int),())∧d2=(h,out,kL,w,a,b,c,d,e,f,g,z,(i:Int),()))
  (fun o1 o2=>o1=o2∧ ∃a b c d e f g z:Int,o1=(h,out,a,b,c,d,e,f,g,z,())) 64
  (by
   rintro i d1 d2 hi ⟨a,b,c,d,e,f,g,z,rfl,rfl⟩
   left
   obtain⟨x,hx⟩: ∃x,w[i]? =some x:=⟨_,List.getElem?_eq_getElem zq0⟩
   have hk:=Ba2 i hi
   unfold Fs Fq
   simp only[Af,Ah,Ac,An]
   rw[Al zq0,Az,Az]
   simp (disch:=decide) only[Aqi,Aqj,Ai,A0e,Ce hx,hk,A1b,A4z]
   rw[w64 (n:=(i:Int)+1) zq0]
   refine⟨_,_,rfl,rfl,_,_,_,_,_,_,_,_,rfl,?_⟩
   simp only[Prod.mk.injEq,true_and,and_true]
   exact⟨A67 _ _,A66 _ _,by omega⟩)
  (by
   rintro d1 d2 ⟨a,b,c,d,e,f,g,z,rfl,rfl⟩
   unfold Fs Fq
   simp only[Af,Ah,Ac,An]
   exact⟨_,_,rfl,rfl,rfl,_,_,_,_,_,_,_,_,rfl⟩)
  (d1:=(h,out,w,a,b,c,d,e,f,g,z,(0:Int),())) (d2:=(h,out,kL,w,a,b,c,d,e,f,g,z,(0:Int),())) ⟨a,b,c,d,e,f,g,z,rfl,rfl⟩
 obtain⟨rfl,a',b',c',d',e',f',g',z',rfl⟩:=hq
 exact⟨_,_,_,_,_,_,_,_,h1,h2⟩
theorem A8t (h l:List YI) (hh:h.length=8) (hl:l.length=8): ∃r:List YI,r.length=8∧D8 r=true∧Ay Fa (h,h,l,(l.length:Int),(0:Int),())=some (r,())∧Ay E8 (h,h,l,(0:Int),())=some (r,()):=by
 obtain⟨o1,o2,h1,h2,hq⟩:=W1 (B1:=Fa) (B2:=E8)
  (fun i d1 d2=>∃out:List YI,out.length=8∧(∀j x,j<i→out[j]? =some x→0≤x.1∧x.1≤4294967295)∧d1=(h,out,l,(l.length:Int),(i:Int),())∧d2=(h,out,l,(i:Int),()))
  (fun o1 o2=>o1=o2∧o1.1.length=8∧D8 o1.1=true) 8
  (by
   rintro i d1 d2 hi ⟨out,ho,hb,rfl,rfl⟩
   left
   obtain⟨x,hx⟩: ∃x,h[i]? =some x:=⟨_,List.getElem?_eq_getElem zq0⟩
   obtain⟨y,hy⟩: ∃y,l[i]? =some y:=⟨_,List.getElem?_eq_getElem zq0⟩
   obtain⟨q,hq⟩: ∃q,out[i]? =some q:=⟨_,List.getElem?_eq_getElem zq0⟩
   unfold Fa E8
   simp only[Af,Ah,Ac,An]
   rw[Al zq0,Al zq0,Az,Az]
   simp only[Ce hx,Ce hy,Ce hq,Ai,A1b,Int.toNat_natCast]
   rw[w64 (n:=(i:Int)+1) zq0]
   refine⟨_,_,rfl,rfl,out.set i (m32 (IntKind.i64.wrap (x.1+y.1)),()),by simp[ho],fun j v hj hv=>?_,rfl,rfl⟩
   rw[List.getElem?_set]at hv
   split at hv
   ·rename_i e
    subst e
    split at hv
    ·simp at hv;subst hv;exact Baz _
    ·cases hv
   ·exact hb j v zq0 hv)
  (by
   rintro d1 d2 ⟨out,ho,hb,rfl,rfl⟩
   unfold Fa E8
   simp only[Af,Ah,Ac,An]
   rw[Bi zq0,Ap]
   refine⟨_,_,rfl,rfl,rfl,ho,?_⟩
   rw[U3]
   intro j x hx
   exact hb j x (by have:=(List.getElem?_eq_some_iff.1 hx).1;dsimp only at this;omega) hx)
  (d1:=(h,h,l,(l.length:Int),(0:Int),())) (d2:=(h,h,l,(0:Int),())) ⟨h,hh,fun j x hj=>by omega,rfl,rfl⟩
 obtain⟨rfl,hq1,hq2⟩:=hq
 exact⟨o1.1,hq1,hq2,h1,h2⟩
theorem Aa4 (h:List YI) (b:List YB) (hh:h.length≤1073741824) (hb:b.length≤4294967296):
  ∃r,Lb (h,()) (b,())=some (r,())∧Pe (h,()) (b,())=some (r,())∧r.length=h.length∧(D8 h=true→D8 r=true):=by
 obtain⟨w,hw1,hw2,hw3⟩:=A0d b hb
 unfold Lb Ps Pe Pd
 simp only[Af,Ah,Ac,An,List.nil_append,List.length_nil,Nat.zero_add]
 rw[Al zq0,A5,A5,Afp _ _ zq0,A4y _ zq0,Ai,Ai]
 cases hwb:(D8 h && ((h.length:Int)==8))with
 |false=>exact⟨h,rfl,rfl,rfl,id⟩
 |true=>
  have hlen:h.length=8:=by simp at hwb;omega
  have hwd:D8 h=true:=by simp at hwb;exact hwb.1
  simp only[Bool.not_true,Ap]
  by_cases hb64:b.length=64
  ·rw[Dv (by simp[hb64]),Dv (by simp[hb64]),hw1,hw2,Ba1]
   simp only[Ai]
   match h,hlen with
   |[x0,x1,x2,x3,x4,x5,x6,x7],_=>
    simp only[show idx [x0,x1,x2,x3,x4,x5,x6,x7] (0:Int)=some x0 from rfl,show idx [x0,x1,x2,x3,x4,x5,x6,x7] (1:Int)=some x1 from rfl,show idx [x0,x1,x2,x3,x4,x5,x6,x7] (2:Int)=some x2 from rfl,show idx [x0,x1,x2,x3,x4,x5,x6,x7] (3:Int)=some x3 from rfl,
     show idx [x0,x1,x2,x3,x4,x5,x6,x7] (4:Int)=some x4 from rfl,show idx [x0,x1,x2,x3,x4,x5,x6,x7] (5:Int)=some x5 from rfl,show idx [x0,x1,x2,x3,x4,x5,x6,x7] (6:Int)=some x6 from rfl,show idx [x0,x1,x2,x3,x4,x5,x6,x7] (7:Int)=some x7 from rfl,Ai]
    obtain⟨a',b',c',d',e',f',g',z',q1,q2⟩:=A40 [x0,x1,x2,x3,x4,x5,x6,x7] [x0,x1,x2,x3,x4,x5,x6,x7] w (hw3 hb64) x0.1 x1.1 x2.1 x3.1 x4.1 x5.1 x6.1 x7.1
    rw[q1,q2]
    simp only[Ai]
    obtain⟨r,r1,r2,r3,r4⟩:=A8t [x0,x1,x2,x3,x4,x5,x6,x7] [(a',()),(b',()),(c',()),(d',()),(e',()),(f',()),(g',()),(z',())] rfl rfl
    rw[r3,r4]
    exact⟨r,rfl,rfl,r1,fun _=>r2⟩
  ·have h': ¬((b.length:Int)=64):=by omega
   rw[F3 (by simpa using h'),F3 (by simpa using h')]
   exact⟨h,rfl,rfl,rfl,id⟩
def Gr (h:List YI) (b:List YB):List YI:=match Lb (h,()) (b,())with|some r=>r.1|none=>[]
theorem A2p (h:List YI) (b:List YB) (hh:h.length≤1073741824) (hb:b.length≤4294967296):Lb (h,()) (b,())=some (Gr h b,()):=by
 obtain⟨r,h1,h2,_⟩:=Aa4 h b hh hb
 unfold Gr;rw[h1]
theorem A2q (h:List YI) (b:List YB) (hh:h.length≤1073741824) (hb:b.length≤4294967296):Pe (h,()) (b,())=some (Gr h b,()):=by
 obtain⟨r,h1,h2,_⟩:=Aa4 h b hh hb
 unfold Gr;rw[h1,h2]
theorem W2 (h:List YI) (b:List YB) (hh:h.length≤1073741824) (hb:b.length≤4294967296):(Gr h b).length=h.length∧(D8 h=true→D8 (Gr h b)=true):=by
 obtain⟨r,h1,h2,h3,h4⟩:=Aa4 h b hh hb
 unfold Gr;rw[h1];exact⟨h3,h4⟩
end
end Go.Proofs.YtmhhajdeafijmaaGreat
