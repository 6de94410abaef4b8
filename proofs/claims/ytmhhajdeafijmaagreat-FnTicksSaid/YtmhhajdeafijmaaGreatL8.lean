/-
  That the program and the reference answer alike, in plain terms, and that the laws answer true.
-/
import Derived.Test.YtmhhajdeafijmaaGreatL7
namespace Go.Proofs.YtmhhajdeafijmaaGreat
open Go.RowKit
set_option linter.unusedVariables false
set_option linter.unusedSimpArgs false
set_option maxHeartbeats 4000000
noncomputable section
def kL:List YI:=Ms.map fun x=>(x,())
theorem Bc5:A2u=some (kL,()):=rfl
theorem A1w (n:YI):Ajr n=some (Su n.1,()):=rfl
theorem Bc6 (i:Nat) (h:i<64):idx kL (i:Int)=some (Su (i:Int),()):=by
 rw[A39]
 unfold kL Su
 rw[List.getElem?_map,if_pos zq0,Int.toNat_natCast]
 have:i<Ms.length:=by simpa [Ms] using h
 rw[List.getElem?_eq_getElem this];rfl
theorem A6l (l:List YI) (hl:l.length≤4294967296):Adh (l,())=some (D3 l && ((l.length:Int)==8),()):=by
 have h:=Abw (B:=J6) l (fun i=>(l,(i:Int),())) (fun _ e=> !inR e.1 0 4294967295) (false,()) (l,())
  (fun i x hi hx=>by
   unfold J6
   simp (disch:=omega) only[Ag,Ai,Ad,M6 hi,Aw,Dl hx,Aj,Cb,w64]
   rfl)
  (by unfold J6;simp only[Ag,Ai,Ad,M7,An])
 unfold Adh Acu
 simp only[Ai,S8,Ad]
 rw[show((0:Int))=((0:Nat):Int)from rfl,h]
 unfold D3
 cases Sc (fun _ (e:YI)=> !inR e.1 0 4294967295) l<;>rfl
theorem A6m (x:BitVec IntKind.i64.bits):BitVec.ofInt (IntKind.i64.bits) (4294967295:Int) ^^^ x=x ^^^ BitVec.ofInt (IntKind.i64.bits) (4294967295:Int):=BitVec.xor_comm _ _
theorem Xh {l:List YI}:D3 l=true↔ ∀(j:Nat) (x:YI),l[j]? =some x→0≤x.1∧x.1≤4294967295:=by
 unfold D3
 rw[A2z]
 simp only[Bool.not_eq_false',A6]
theorem A6n (h out w:List YI) (hw:w.length=64) (a b c d e f g z:Int):
  ∃a' b' c' d' e' f' g' z',Ay Fw (h,out,w,a,b,c,d,e,f,g,z,(0:Int),())=some (h,out,a',b',c',d',e',f',g',z',())∧
   Ay Fv (h,out,kL,w,a,b,c,d,e,f,g,z,(0:Int),())=some (h,out,a',b',c',d',e',f',g',z',()):=by
 obtain⟨o1,o2,h1,h2,hq⟩:=Aaq (B1:=Fw) (B2:=Fv)
  (fun i d1 d2=>∃a b c d e f g z:Int,d1=(h,out,w,a,b,c,d,e,f,g,z,(i:Int),())∧d2=(h,out,kL,w,a,b,c,d,e,f,g,z,(i:Int),()))
  (fun o1 o2=>o1=o2∧ ∃a b c d e f g z:Int,o1=(h,out,a,b,c,d,e,f,g,z,())) 64
  (by
   rintro i d1 d2 hi ⟨a,b,c,d,e,f,g,z,rfl,rfl⟩
   left
   obtain⟨x,hx⟩: ∃x,w[i]? =some x:=⟨_,List.getElem?_eq_getElem zq0⟩
   have hk:=Bc6 i hi
   unfold Fw Fv
   simp only[Ag,Ai,Ad,Ao]
   rw[Am zq0,Aw,Aw]
   simp (disch:=decide) only[Asm,Asn,Aj,A1w,Dl hx,hk,A2y,A6m]
   rw[w64 (n:=(i:Int)+1) zq0]
   refine⟨_,_,rfl,rfl,_,_,_,_,_,_,_,_,rfl,?_⟩
   simp only[Prod.mk.injEq,true_and,and_true]
   exact⟨A8n _ _,A8m _ _,by omega⟩)
  (by
   rintro d1 d2 ⟨a,b,c,d,e,f,g,z,rfl,rfl⟩
   unfold Fw Fv
   simp only[Ag,Ai,Ad,Ao]
   exact⟨_,_,rfl,rfl,rfl,_,_,_,_,_,_,_,_,rfl⟩)
  (d1:=(h,out,w,a,b,c,d,e,f,g,z,(0:Int),())) (d2:=(h,out,kL,w,a,b,c,d,e,f,g,z,(0:Int),())) ⟨a,b,c,d,e,f,g,z,rfl,rfl⟩
 obtain⟨rfl,a',b',c',d',e',f',g',z',rfl⟩:=hq
 exact⟨_,_,_,_,_,_,_,_,h1,h2⟩
theorem Baj (h l:List YI) (hh:h.length=8) (hl:l.length=8): ∃r:List YI,r.length=8∧D3 r=true∧Ay Fb (h,h,l,(l.length:Int),(0:Int),())=some (r,())∧Ay Fa (h,h,l,(0:Int),())=some (r,()):=by
 obtain⟨o1,o2,h1,h2,hq⟩:=Aaq (B1:=Fb) (B2:=Fa)
  (fun i d1 d2=>∃out:List YI,out.length=8∧(∀j x,j<i→out[j]? =some x→0≤x.1∧x.1≤4294967295)∧d1=(h,out,l,(l.length:Int),(i:Int),())∧d2=(h,out,l,(i:Int),()))
  (fun o1 o2=>o1=o2∧o1.1.length=8∧D3 o1.1=true) 8
  (by
   rintro i d1 d2 hi ⟨out,ho,hb,rfl,rfl⟩
   left
   obtain⟨x,hx⟩: ∃x,h[i]? =some x:=⟨_,List.getElem?_eq_getElem zq0⟩
   obtain⟨y,hy⟩: ∃y,l[i]? =some y:=⟨_,List.getElem?_eq_getElem zq0⟩
   obtain⟨q,hq⟩: ∃q,out[i]? =some q:=⟨_,List.getElem?_eq_getElem zq0⟩
   unfold Fb Fa
   simp only[Ag,Ai,Ad,Ao]
   rw[Am zq0,Am zq0,Aw,Aw]
   simp only[Dl hx,Dl hy,Dl hq,Aj,A2y,Int.toNat_natCast]
   rw[w64 (n:=(i:Int)+1) zq0]
   refine⟨_,_,rfl,rfl,out.set i (m32 (IntKind.i64.wrap (x.1+y.1)),()),by simp[ho],fun j v hj hv=>?_,rfl,rfl⟩
   rw[List.getElem?_set]at hv
   split at hv
   ·rename_i e
    subst e
    split at hv
    ·simp at hv;subst hv;exact Bc3 _
    ·cases hv
   ·exact hb j v zq0 hv)
  (by
   rintro d1 d2 ⟨out,ho,hb,rfl,rfl⟩
   unfold Fb Fa
   simp only[Ag,Ai,Ad,Ao]
   rw[A8 zq0,An]
   refine⟨_,_,rfl,rfl,rfl,ho,?_⟩
   rw[Xh]
   intro j x hx
   exact hb j x (by have:=(List.getElem?_eq_some_iff.1 hx).1;dsimp only at this;omega) hx)
  (d1:=(h,h,l,(l.length:Int),(0:Int),())) (d2:=(h,h,l,(0:Int),())) ⟨h,hh,fun j x hj=>by omega,rfl,rfl⟩
 obtain⟨rfl,hq1,hq2⟩:=hq
 exact⟨o1.1,hq1,hq2,h1,h2⟩
theorem Adu (h:List YI) (b:List YB) (hh:h.length≤1073741824) (hb:b.length≤4294967296):
  ∃r,Li (h,()) (b,())=some (r,())∧Pi (h,()) (b,())=some (r,())∧r.length=h.length∧(D3 h=true→D3 r=true):=by
 obtain⟨w,hw1,hw2,hw3⟩:=A1v b hb
 unfold Li Pa Pi Ox
 simp only[Ag,Ai,Ad,Ao,List.nil_append,List.length_nil,Nat.zero_add]
 rw[Am zq0,A5,A5,Ah7 _ _ zq0,A6l _ zq0,Aj,Aj]
 cases hwb:(D3 h && ((h.length:Int)==8))with
 |false=>exact⟨h,rfl,rfl,rfl,id⟩
 |true=>
  have hlen:h.length=8:=by simp at hwb;omega
  have hwd:D3 h=true:=by simp at hwb;exact hwb.1
  simp only[Bool.not_true,An]
  by_cases hb64:b.length=64
  ·rw[Cp (by simp[hb64]),Cp (by simp[hb64]),hw1,hw2,Bc5]
   simp only[Aj]
   match h,hlen with
   |[x0,x1,x2,x3,x4,x5,x6,x7],_=>
    simp only[show idx [x0,x1,x2,x3,x4,x5,x6,x7] (0:Int)=some x0 from rfl,show idx [x0,x1,x2,x3,x4,x5,x6,x7] (1:Int)=some x1 from rfl,show idx [x0,x1,x2,x3,x4,x5,x6,x7] (2:Int)=some x2 from rfl,show idx [x0,x1,x2,x3,x4,x5,x6,x7] (3:Int)=some x3 from rfl,
     show idx [x0,x1,x2,x3,x4,x5,x6,x7] (4:Int)=some x4 from rfl,show idx [x0,x1,x2,x3,x4,x5,x6,x7] (5:Int)=some x5 from rfl,show idx [x0,x1,x2,x3,x4,x5,x6,x7] (6:Int)=some x6 from rfl,show idx [x0,x1,x2,x3,x4,x5,x6,x7] (7:Int)=some x7 from rfl,Aj]
    obtain⟨a',b',c',d',e',f',g',z',q1,q2⟩:=A6n [x0,x1,x2,x3,x4,x5,x6,x7] [x0,x1,x2,x3,x4,x5,x6,x7] w (hw3 hb64) x0.1 x1.1 x2.1 x3.1 x4.1 x5.1 x6.1 x7.1
    rw[q1,q2]
    simp only[Aj]
    obtain⟨r,r1,r2,r3,r4⟩:=Baj [x0,x1,x2,x3,x4,x5,x6,x7] [(a',()),(b',()),(c',()),(d',()),(e',()),(f',()),(g',()),(z',())] rfl rfl
    rw[r3,r4]
    exact⟨r,rfl,rfl,r1,fun _=>r2⟩
  ·have h': ¬((b.length:Int)=64):=by omega
   rw[Ej (by simpa using h'),Ej (by simpa using h')]
   exact⟨h,rfl,rfl,rfl,id⟩
def Gp (h:List YI) (b:List YB):List YI:=match Li (h,()) (b,())with|some r=>r.1|none=>[]
theorem A4c (h:List YI) (b:List YB) (hh:h.length≤1073741824) (hb:b.length≤4294967296):Li (h,()) (b,())=some (Gp h b,()):=by
 obtain⟨r,h1,h2,_⟩:=Adu h b hh hb
 unfold Gp;rw[h1]
theorem A4d (h:List YI) (b:List YB) (hh:h.length≤1073741824) (hb:b.length≤4294967296):Pi (h,()) (b,())=some (Gp h b,()):=by
 obtain⟨r,h1,h2,_⟩:=Adu h b hh hb
 unfold Gp;rw[h1,h2]
theorem Aar (h:List YI) (b:List YB) (hh:h.length≤1073741824) (hb:b.length≤4294967296):(Gp h b).length=h.length∧(D3 h=true→D3 (Gp h b)=true):=by
 obtain⟨r,h1,h2,h3,h4⟩:=Adu h b hh hb
 unfold Gp;rw[h1];exact⟨h3,h4⟩
end
end Go.Proofs.YtmhhajdeafijmaaGreat
