/-
  That the program and the reference answer alike, in plain terms, and that the laws answer true.
-/
import Derived.Test.YtmhhajdeafijmaaGreatL7
namespace Go.Proofs.YtmhhajdeafijmaaGreat
open Go.RowKit
set_option linter.unusedVariables false
set_option linter.unusedSimpArgs false
set_option maxHeartbeats 4000000
noncomputable section
def kL:List YI:=Nr.map fun x=>(x,())
theorem A8u:Ayu=some (kL,()):=rfl
theorem Ax3 (n:YI):Afy n=some (Ta n.1,()):=rfl
theorem A8v (i:Nat) (h:i<64):idx kL (i:Int)=some (Ta (i:Int),()):=by
 rw[A0o]
 unfold kL Ta
 rw[List.getElem?_map,if_pos zq0,Int.toNat_natCast]
 have:i<Nr.length:=by simpa [Nr] using h
 rw[List.getElem?_eq_getElem this];rfl
theorem A2u (l:List YI) (hl:l.length≤4294967296):Zx (l,())=some (Ed l && ((l.length:Int)==8),()):=by
 have h:=J1 (B:=Kt) l (fun i=>(l,(i:Int),())) (fun _ e=> !inR e.1 0 4294967295) (false,()) (l,())
  (fun i x hi hx=>by
   unfold Kt
   simp (disch:=omega) only[Ae,Ai,Ac,Ep hi,A0,Ca hx,Ag,Cw,w64]
   rfl)
  (by unfold Kt;simp only[Ae,Ai,Ac,Er,Am])
 unfold Zx Zw
 simp only[Ai,G6,Ac]
 rw[show((0:Int))=((0:Nat):Int)from rfl,h]
 unfold Ed
 cases He (fun _ (e:YI)=> !inR e.1 0 4294967295) l<;>rfl
theorem A2v (x:BitVec IntKind.i64.bits):BitVec.ofInt (IntKind.i64.bits) (4294967295:Int) ^^^ x=x ^^^ BitVec.ofInt (IntKind.i64.bits) (4294967295:Int):=BitVec.xor_comm _ _
theorem U5 {l:List YI}:Ed l=true↔ ∀(j:Nat) (x:YI),l[j]? =some x→0≤x.1∧x.1≤4294967295:=by
 unfold Ed
 rw[Aje]
 simp only[Bool.not_eq_false',Bl]
theorem A2w (h out w:List YI) (hw:w.length=64) (a b c d e f g z:Int):
  ∃a' b' c' d' e' f' g' z',Ay F2 (h,out,w,a,b,c,d,e,f,g,z,(0:Int),())=some (h,out,a',b',c',d',e',f',g',z',())∧
   Ay Fz (h,out,kL,w,a,b,c,d,e,f,g,z,(0:Int),())=some (h,out,a',b',c',d',e',f',g',z',()):=by
 obtain⟨o1,o2,h1,h2,hq⟩:=Wx (B1:=F2) (B2:=Fz)
  (fun i d1 d2=>∃a b c d e f g z:Int,d1=(h,out,w,a,b,c,d,e,f,g,z,(i:Int),())∧d2=(h,out,kL,w,a,b,c,d,e,f,g,z,(i:Int),()))
  (fun o1 o2=>o1=o2∧ ∃a b c d e f g z:Int,o1=(h,out,a,b,c,d,e,f,g,z,())) 64
  (by
   rintro i d1 d2 hi ⟨a,b,c,d,e,f,g,z,rfl,rfl⟩
   left
   obtain⟨x,hx⟩: ∃x,w[i]? =some x:=⟨_,List.getElem?_eq_getElem zq0⟩
   have hk:=A8v i hi
   unfold F2 Fz
   simp only[Ae,Ai,Ac,Aj]
   rw[Ak zq0,A0,A0]
   simp (disch:=decide) only[Aof,Aog,Ag,Ax3,Ca hx,hk,Ay5,A2v]
   rw[w64 (n:=(i:Int)+1) zq0]
   refine⟨_,_,rfl,rfl,_,_,_,_,_,_,_,_,rfl,?_⟩
   simp only[Prod.mk.injEq,true_and,and_true]
   exact⟨A41 _ _,A40 _ _,by omega⟩)
  (by
   rintro d1 d2 ⟨a,b,c,d,e,f,g,z,rfl,rfl⟩
   unfold F2 Fz
   simp only[Ae,Ai,Ac,Aj]
   exact⟨_,_,rfl,rfl,rfl,_,_,_,_,_,_,_,_,rfl⟩)
  (d1:=(h,out,w,a,b,c,d,e,f,g,z,(0:Int),())) (d2:=(h,out,kL,w,a,b,c,d,e,f,g,z,(0:Int),())) ⟨a,b,c,d,e,f,g,z,rfl,rfl⟩
 obtain⟨rfl,a',b',c',d',e',f',g',z',rfl⟩:=hq
 exact⟨_,_,_,_,_,_,_,_,h1,h2⟩
theorem A6p (h l:List YI) (hh:h.length=8) (hl:l.length=8): ∃r:List YI,r.length=8∧Ed r=true∧Ay Fl (h,h,l,(l.length:Int),(0:Int),())=some (r,())∧Ay Fj (h,h,l,(0:Int),())=some (r,()):=by
 obtain⟨o1,o2,h1,h2,hq⟩:=Wx (B1:=Fl) (B2:=Fj)
  (fun i d1 d2=>∃out:List YI,out.length=8∧(∀j x,j<i→out[j]? =some x→0≤x.1∧x.1≤4294967295)∧d1=(h,out,l,(l.length:Int),(i:Int),())∧d2=(h,out,l,(i:Int),()))
  (fun o1 o2=>o1=o2∧o1.1.length=8∧Ed o1.1=true) 8
  (by
   rintro i d1 d2 hi ⟨out,ho,hb,rfl,rfl⟩
   left
   obtain⟨x,hx⟩: ∃x,h[i]? =some x:=⟨_,List.getElem?_eq_getElem zq0⟩
   obtain⟨y,hy⟩: ∃y,l[i]? =some y:=⟨_,List.getElem?_eq_getElem zq0⟩
   obtain⟨q,hq⟩: ∃q,out[i]? =some q:=⟨_,List.getElem?_eq_getElem zq0⟩
   unfold Fl Fj
   simp only[Ae,Ai,Ac,Aj]
   rw[Ak zq0,Ak zq0,A0,A0]
   simp only[Ca hx,Ca hy,Ca hq,Ag,Ay5,Int.toNat_natCast]
   rw[w64 (n:=(i:Int)+1) zq0]
   refine⟨_,_,rfl,rfl,out.set i (m32 (IntKind.i64.wrap (x.1+y.1)),()),by simp[ho],fun j v hj hv=>?_,rfl,rfl⟩
   rw[List.getElem?_set]at hv
   split at hv
   ·rename_i e
    subst e
    split at hv
    ·simp at hv;subst hv;exact A8s _
    ·cases hv
   ·exact hb j v zq0 hv)
  (by
   rintro d1 d2 ⟨out,ho,hb,rfl,rfl⟩
   unfold Fl Fj
   simp only[Ae,Ai,Ac,Aj]
   rw[Bh zq0,Am]
   refine⟨_,_,rfl,rfl,rfl,ho,?_⟩
   rw[U5]
   intro j x hx
   exact hb j x (by have:=(List.getElem?_eq_some_iff.1 hx).1;dsimp only at this;omega) hx)
  (d1:=(h,h,l,(l.length:Int),(0:Int),())) (d2:=(h,h,l,(0:Int),())) ⟨h,hh,fun j x hj=>by omega,rfl,rfl⟩
 obtain⟨rfl,hq1,hq2⟩:=hq
 exact⟨o1.1,hq1,hq2,h1,h2⟩
theorem Aax (h:List YI) (b:List YB) (hh:h.length≤1073741824) (hb:b.length≤4294967296):
  ∃r,Lu (h,()) (b,())=some (r,())∧Pn (h,()) (b,())=some (r,())∧r.length=h.length∧(Ed h=true→Ed r=true):=by
 obtain⟨w,hw1,hw2,hw3⟩:=Ax2 b hb
 unfold Lu Pz Pn Pm
 simp only[Ae,Ai,Ac,Aj,List.nil_append,List.length_nil,Nat.zero_add]
 rw[Ak zq0,A8,A8,Aet _ _ zq0,A2u _ zq0,Ag,Ag]
 cases hwb:(Ed h && ((h.length:Int)==8))with
 |false=>exact⟨h,rfl,rfl,rfl,id⟩
 |true=>
  have hlen:h.length=8:=by simp at hwb;omega
  have hwd:Ed h=true:=by simp at hwb;exact hwb.1
  simp only[Bool.not_true,Am]
  by_cases hb64:b.length=64
  ·rw[C4 (by simp[hb64]),C4 (by simp[hb64]),hw1,hw2,A8u]
   simp only[Ag]
   match h,hlen with
   |[x0,x1,x2,x3,x4,x5,x6,x7],_=>
    simp only[show idx [x0,x1,x2,x3,x4,x5,x6,x7] (0:Int)=some x0 from rfl,show idx [x0,x1,x2,x3,x4,x5,x6,x7] (1:Int)=some x1 from rfl,show idx [x0,x1,x2,x3,x4,x5,x6,x7] (2:Int)=some x2 from rfl,show idx [x0,x1,x2,x3,x4,x5,x6,x7] (3:Int)=some x3 from rfl,
     show idx [x0,x1,x2,x3,x4,x5,x6,x7] (4:Int)=some x4 from rfl,show idx [x0,x1,x2,x3,x4,x5,x6,x7] (5:Int)=some x5 from rfl,show idx [x0,x1,x2,x3,x4,x5,x6,x7] (6:Int)=some x6 from rfl,show idx [x0,x1,x2,x3,x4,x5,x6,x7] (7:Int)=some x7 from rfl,Ag]
    obtain⟨a',b',c',d',e',f',g',z',q1,q2⟩:=A2w [x0,x1,x2,x3,x4,x5,x6,x7] [x0,x1,x2,x3,x4,x5,x6,x7] w (hw3 hb64) x0.1 x1.1 x2.1 x3.1 x4.1 x5.1 x6.1 x7.1
    rw[q1,q2]
    simp only[Ag]
    obtain⟨r,r1,r2,r3,r4⟩:=A6p [x0,x1,x2,x3,x4,x5,x6,x7] [(a',()),(b',()),(c',()),(d',()),(e',()),(f',()),(g',()),(z',())] rfl rfl
    rw[r3,r4]
    exact⟨r,rfl,rfl,r1,fun _=>r2⟩
  ·have h': ¬((b.length:Int)=64):=by omega
   rw[Fg (by simpa using h'),Fg (by simpa using h')]
   exact⟨h,rfl,rfl,rfl,id⟩
def G3 (h:List YI) (b:List YB):List YI:=match Lu (h,()) (b,())with|some r=>r.1|none=>[]
theorem A0r (h:List YI) (b:List YB) (hh:h.length≤1073741824) (hb:b.length≤4294967296):Lu (h,()) (b,())=some (G3 h b,()):=by
 obtain⟨r,h1,h2,_⟩:=Aax h b hh hb
 unfold G3;rw[h1]
theorem A0s (h:List YI) (b:List YB) (hh:h.length≤1073741824) (hb:b.length≤4294967296):Pn (h,()) (b,())=some (G3 h b,()):=by
 obtain⟨r,h1,h2,_⟩:=Aax h b hh hb
 unfold G3;rw[h1,h2]
theorem Wy (h:List YI) (b:List YB) (hh:h.length≤1073741824) (hb:b.length≤4294967296):(G3 h b).length=h.length∧(Ed h=true→Ed (G3 h b)=true):=by
 obtain⟨r,h1,h2,h3,h4⟩:=Aax h b hh hb
 unfold G3;rw[h1];exact⟨h3,h4⟩
end
end Go.Proofs.YtmhhajdeafijmaaGreat
