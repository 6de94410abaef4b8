/-
  That the program and the reference answer alike, in plain terms, and that the laws answer true.
-/
import Derived.Test.YtmhhajdeafijmaaL7
namespace Go.Proofs.Ytmhhajdeafijmaa
open Go.RowKit
set_option linter.unusedVariables false
set_option linter.unusedSimpArgs false
set_option maxHeartbeats 4000000
noncomputable section
def kL:List YI:=Hh.map fun x=>(x,())
theorem Alz:Aeh=some (kL,()):=rfl
theorem Ad2 (n:YI):Qo n=some (J1 n.1,()):=rfl
theorem Al0 (i:Nat) (h:i<64):idx kL (i:Int)=some (J1 (i:Int),()):=by
 rw[Afp]
 unfold kL J1
 rw[List.getElem?_map,if_pos zq0,Int.toNat_natCast]
 have:i<Hh.length:=by simpa [Hh] using h
 rw[List.getElem?_eq_getElem this];rfl
theorem Ahg (l:List YI) (hl:l.length≤4294967296):Na (l,())=some (Cw l && ((l.length:Int)==8),()):=by
 have h:=Zu (B:=Ft) l (fun i=>(l,(i:Int),())) (fun _ e=> !inR e.1 0 4294967295) (false,()) (l,())
  (fun i x hi hx=>by
   unfold Ft
   simp (disch:=omega) only[Ad,Ae,Ac,Hi hi,Ap,Bb hx,Ag,J2,w64]
   rfl)
  (by unfold Ft;simp only[Ad,Ae,Ac,Gp,Aj])
 unfold Na M9
 simp only[Ae,N6,Ac]
 rw[show((0:Int))=((0:Nat):Int)from rfl,h]
 unfold Cw
 cases Pr (fun _ (e:YI)=> !inR e.1 0 4294967295) l<;>rfl
theorem Ahh (x:BitVec IntKind.i64.bits):BitVec.ofInt (IntKind.i64.bits) (4294967295:Int) ^^^ x=x ^^^ BitVec.ofInt (IntKind.i64.bits) (4294967295:Int):=BitVec.xor_comm _ _
theorem Aft {l:List YI}:Cw l=true↔ ∀(j:Nat) (x:YI),l[j]? =some x→0≤x.1∧x.1≤4294967295:=by
 unfold Cw
 rw[Aka]
 simp only[Bool.not_eq_false',Kq]
theorem Ahi (h out w:List YI) (hw:w.length=64) (a b c d e f g z:Int):
  ∃a' b' c' d' e' f' g' z',Am Db (h,out,w,a,b,c,d,e,f,g,z,(0:Int),())=some (h,out,a',b',c',d',e',f',g',z',())∧
   Am Dc (h,out,kL,w,a,b,c,d,e,f,g,z,(0:Int),())=some (h,out,a',b',c',d',e',f',g',z',()):=by
 obtain⟨o1,o2,h1,h2,hq⟩:=Pv (B1:=Db) (B2:=Dc)
  (fun i d1 d2=>∃a b c d e f g z:Int,d1=(h,out,w,a,b,c,d,e,f,g,z,(i:Int),())∧d2=(h,out,kL,w,a,b,c,d,e,f,g,z,(i:Int),()))
  (fun o1 o2=>o1=o2∧ ∃a b c d e f g z:Int,o1=(h,out,a,b,c,d,e,f,g,z,())) 64
  (by
   rintro i d1 d2 hi ⟨a,b,c,d,e,f,g,z,rfl,rfl⟩
   left
   obtain⟨x,hx⟩: ∃x,w[i]? =some x:=⟨_,List.getElem?_eq_getElem zq0⟩
   have hk:=Al0 i hi
   unfold Db Dc
   simp only[Ad,Ae,Ac,Ah]
   rw[Af zq0,Ap,Ap]
   simp (disch:=decide) only[V5,V6,Ag,Ad2,Bb hx,hk,Aet,Ahh]
   rw[w64 (n:=(i:Int)+1) zq0]
   refine⟨_,_,rfl,rfl,_,_,_,_,_,_,_,_,rfl,?_⟩
   simp only[Prod.mk.injEq,true_and,and_true]
   exact⟨Aix _ _,Aiw _ _,by omega⟩)
  (by
   rintro d1 d2 ⟨a,b,c,d,e,f,g,z,rfl,rfl⟩
   unfold Db Dc
   simp only[Ad,Ae,Ac,Ah]
   exact⟨_,_,rfl,rfl,rfl,_,_,_,_,_,_,_,_,rfl⟩)
  (d1:=(h,out,w,a,b,c,d,e,f,g,z,(0:Int),())) (d2:=(h,out,kL,w,a,b,c,d,e,f,g,z,(0:Int),())) ⟨a,b,c,d,e,f,g,z,rfl,rfl⟩
 obtain⟨rfl,a',b',c',d',e',f',g',z',rfl⟩:=hq
 exact⟨_,_,_,_,_,_,_,_,h1,h2⟩
theorem Akb (h l:List YI) (hh:h.length=8) (hl:l.length=8): ∃r:List YI,r.length=8∧Cw r=true∧Am Cu (h,h,l,(l.length:Int),(0:Int),())=some (r,())∧Am Cv (h,h,l,(0:Int),())=some (r,()):=by
 obtain⟨o1,o2,h1,h2,hq⟩:=Pv (B1:=Cu) (B2:=Cv)
  (fun i d1 d2=>∃out:List YI,out.length=8∧(∀j x,j<i→out[j]? =some x→0≤x.1∧x.1≤4294967295)∧d1=(h,out,l,(l.length:Int),(i:Int),())∧d2=(h,out,l,(i:Int),()))
  (fun o1 o2=>o1=o2∧o1.1.length=8∧Cw o1.1=true) 8
  (by
   rintro i d1 d2 hi ⟨out,ho,hb,rfl,rfl⟩
   left
   obtain⟨x,hx⟩: ∃x,h[i]? =some x:=⟨_,List.getElem?_eq_getElem zq0⟩
   obtain⟨y,hy⟩: ∃y,l[i]? =some y:=⟨_,List.getElem?_eq_getElem zq0⟩
   obtain⟨q,hq⟩: ∃q,out[i]? =some q:=⟨_,List.getElem?_eq_getElem zq0⟩
   unfold Cu Cv
   simp only[Ad,Ae,Ac,Ah]
   rw[Af zq0,Af zq0,Ap,Ap]
   simp only[Bb hx,Bb hy,Bb hq,Ag,Aet,Int.toNat_natCast]
   rw[w64 (n:=(i:Int)+1) zq0]
   refine⟨_,_,rfl,rfl,out.set i (m32 (IntKind.i64.wrap (x.1+y.1)),()),by simp[ho],fun j v hj hv=>?_,rfl,rfl⟩
   rw[List.getElem?_set]at hv
   split at hv
   ·rename_i e
    subst e
    split at hv
    ·simp at hv;subst hv;exact Aly _
    ·cases hv
   ·exact hb j v zq0 hv)
  (by
   rintro d1 d2 ⟨out,ho,hb,rfl,rfl⟩
   unfold Cu Cv
   simp only[Ad,Ae,Ac,Ah]
   rw[Au zq0,Aj]
   refine⟨_,_,rfl,rfl,rfl,ho,?_⟩
   rw[Aft]
   intro j x hx
   exact hb j x (by have:=(List.getElem?_eq_some_iff.1 hx).1;dsimp only at this;omega) hx)
  (d1:=(h,h,l,(l.length:Int),(0:Int),())) (d2:=(h,h,l,(0:Int),())) ⟨h,hh,fun j x hj=>by omega,rfl,rfl⟩
 obtain⟨rfl,hq1,hq2⟩:=hq
 exact⟨o1.1,hq1,hq2,h1,h2⟩
theorem Nf (h:List YI) (b:List YB) (hh:h.length≤1073741824) (hb:b.length≤4294967296):
  ∃r,F7 (h,()) (b,())=some (r,())∧Iu (h,()) (b,())=some (r,())∧r.length=h.length∧(Cw h=true→Cw r=true):=by
 obtain⟨w,hw1,hw2,hw3⟩:=Ad1 b hb
 unfold F7 Iq Iu It
 simp only[Ad,Ae,Ac,Ah,List.nil_append,List.length_nil,Nat.zero_add]
 rw[Af zq0,Ar,Ar,V4 _ _ zq0,Ahg _ zq0,Ag,Ag]
 cases hwb:(Cw h && ((h.length:Int)==8))with
 |false=>exact⟨h,rfl,rfl,rfl,id⟩
 |true=>
  have hlen:h.length=8:=by simp at hwb;omega
  have hwd:Cw h=true:=by simp at hwb;exact hwb.1
  simp only[Bool.not_true,Aj]
  by_cases hb64:b.length=64
  ·rw[Iy (by simp[hb64]),Iy (by simp[hb64]),hw1,hw2,Alz]
   simp only[Ag]
   match h,hlen with
   |[x0,x1,x2,x3,x4,x5,x6,x7],_=>
    simp only[show idx [x0,x1,x2,x3,x4,x5,x6,x7] (0:Int)=some x0 from rfl,show idx [x0,x1,x2,x3,x4,x5,x6,x7] (1:Int)=some x1 from rfl,show idx [x0,x1,x2,x3,x4,x5,x6,x7] (2:Int)=some x2 from rfl,show idx [x0,x1,x2,x3,x4,x5,x6,x7] (3:Int)=some x3 from rfl,
     show idx [x0,x1,x2,x3,x4,x5,x6,x7] (4:Int)=some x4 from rfl,show idx [x0,x1,x2,x3,x4,x5,x6,x7] (5:Int)=some x5 from rfl,show idx [x0,x1,x2,x3,x4,x5,x6,x7] (6:Int)=some x6 from rfl,show idx [x0,x1,x2,x3,x4,x5,x6,x7] (7:Int)=some x7 from rfl,Ag]
    obtain⟨a',b',c',d',e',f',g',z',q1,q2⟩:=Ahi [x0,x1,x2,x3,x4,x5,x6,x7] [x0,x1,x2,x3,x4,x5,x6,x7] w (hw3 hb64) x0.1 x1.1 x2.1 x3.1 x4.1 x5.1 x6.1 x7.1
    rw[q1,q2]
    simp only[Ag]
    obtain⟨r,r1,r2,r3,r4⟩:=Akb [x0,x1,x2,x3,x4,x5,x6,x7] [(a',()),(b',()),(c',()),(d',()),(e',()),(f',()),(g',()),(z',())] rfl rfl
    rw[r3,r4]
    exact⟨r,rfl,rfl,r1,fun _=>r2⟩
  ·have h': ¬((b.length:Int)=64):=by omega
   rw[Sp (by simpa using h'),Sp (by simpa using h')]
   exact⟨h,rfl,rfl,rfl,id⟩
def Dq (h:List YI) (b:List YB):List YI:=match F7 (h,()) (b,())with|some r=>r.1|none=>[]
theorem Afu (h:List YI) (b:List YB) (hh:h.length≤1073741824) (hb:b.length≤4294967296):F7 (h,()) (b,())=some (Dq h b,()):=by
 obtain⟨r,h1,h2,_⟩:=Nf h b hh hb
 unfold Dq;rw[h1]
theorem Afv (h:List YI) (b:List YB) (hh:h.length≤1073741824) (hb:b.length≤4294967296):Iu (h,()) (b,())=some (Dq h b,()):=by
 obtain⟨r,h1,h2,_⟩:=Nf h b hh hb
 unfold Dq;rw[h1,h2]
theorem Ln (h:List YI) (b:List YB) (hh:h.length≤1073741824) (hb:b.length≤4294967296):(Dq h b).length=h.length∧(Cw h=true→Cw (Dq h b)=true):=by
 obtain⟨r,h1,h2,h3,h4⟩:=Nf h b hh hb
 unfold Dq;rw[h1];exact⟨h3,h4⟩
end
end Go.Proofs.Ytmhhajdeafijmaa
