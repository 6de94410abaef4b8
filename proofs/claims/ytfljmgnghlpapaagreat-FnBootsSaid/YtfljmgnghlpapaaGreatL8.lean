/-
  That the program and the reference answer alike, in plain terms, and that the laws answer true.
-/
import Derived.Test.YtfljmgnghlpapaaGreatL7
namespace Go.Proofs.YtfljmgnghlpapaaGreat
open Go.RowKit
set_option linter.unusedVariables false
set_option linter.unusedSimpArgs false
set_option maxHeartbeats 4000000
noncomputable section
def kL:List YI:=Ns.map fun x=>(x,())
theorem Bho:A6h=some (kL,()):=rfl
theorem A5l (n:YI):Ajq n=some (Tm n.1,()):=rfl
theorem Bhp (i:Nat) (h:i<64):idx kL (i:Int)=some (Tm (i:Int),()):=by
 rw[A72]
 unfold kL Tm
 rw[List.getElem?_map,if_pos zq0,Int.toNat_natCast]
 have:i<Ns.length:=by simpa [Ns] using h
 rw[List.getElem?_eq_getElem this];rfl
theorem Ba0 (l:List YI) (hl:l.length≤4294967296):Acw (l,())=some (Ei l && ((l.length:Int)==8),()):=by
 have h:=D4 (B:=Kh) l (fun i=>(l,(i:Int),())) (fun _ e=> !inR e.1 0 4294967295) (false,()) (l,())
  (fun i x hi hx=>by
   unfold Kh
   simp (disch:=omega) only[Ac,Ae,Ab,By hi,A4,Bk hx,Ai,Df,w64]
   rfl)
  (by unfold Kh;simp only[Ac,Ae,Ab,Bz,Au])
 unfold Acw Aa8
 simp only[Ae,Dn,Ab]
 rw[show((0:Int))=((0:Nat):Int)from rfl,h]
 unfold Ei
 cases C6 (fun _ (e:YI)=> !inR e.1 0 4294967295) l<;>rfl
theorem Ba1 (x:BitVec IntKind.i64.bits):BitVec.ofInt (IntKind.i64.bits) (4294967295:Int) ^^^ x=x ^^^ BitVec.ofInt (IntKind.i64.bits) (4294967295:Int):=BitVec.xor_comm _ _
theorem At7 {l:List YI}:Ei l=true↔ ∀(j:Nat) (x:YI),l[j]? =some x→0≤x.1∧x.1≤4294967295:=by
 unfold Ei
 rw[Hq]
 simp only[Bool.not_eq_false',Cu]
theorem Ba2 (h out w:List YI) (hw:w.length=64) (a b c d e f g z:Int):
  ∃a' b' c' d' e' f' g' z',As F0 (h,out,w,a,b,c,d,e,f,g,z,(0:Int),())=some (h,out,a',b',c',d',e',f',g',z',())∧
   As Fy (h,out,kL,w,a,b,c,d,e,f,g,z,(0:Int),())=some (h,out,a',b',c',d',e',f',g',z',()):=by
 obtain⟨o1,o2,h1,h2,hq⟩:=Rt (B1:=F0) (B2:=Fy)
  (fun i d1 d2=>∃a b c d e f g z:Int,d1=(h,out,w,a,b,c,d,e,f,g,z,(i:Int),())∧d2=(h,out,kL,w,a,b,c,d,e,f,g,z,(i:Int),()))
  (fun o1 o2=>o1=o2∧ ∃a b c d e f g z:Int,o1=(h,out,a,b,c,d,e,f,g,z,())) 64
  (by
   rintro i d1 d2 hi ⟨a,b,c,d,e,f,g,z,rfl,rfl⟩
   left
   obtain⟨x,hx⟩: ∃x,w[i]? =some x:=⟨_,List.getElem?_eq_getElem zq0⟩
   have hk:=Bhp i hi
   unfold F0 Fy
   simp only[Ac,Ae,Ab,Al]
   rw[An zq0,A4,A4]
   simp (disch:=decide) only[At5,At6,Ai,A5l,Bk hx,hk,A6l,Ba1]
   rw[w64 (n:=(i:Int)+1) zq0]
   refine⟨_,_,rfl,rfl,_,_,_,_,_,_,_,_,rfl,?_⟩
   simp only[Prod.mk.injEq,true_and,and_true]
   exact⟨Bdc _ _,Bdb _ _,by omega⟩)
  (by
   rintro d1 d2 ⟨a,b,c,d,e,f,g,z,rfl,rfl⟩
   unfold F0 Fy
   simp only[Ac,Ae,Ab,Al]
   exact⟨_,_,rfl,rfl,rfl,_,_,_,_,_,_,_,_,rfl⟩)
  (d1:=(h,out,w,a,b,c,d,e,f,g,z,(0:Int),())) (d2:=(h,out,kL,w,a,b,c,d,e,f,g,z,(0:Int),())) ⟨a,b,c,d,e,f,g,z,rfl,rfl⟩
 obtain⟨rfl,a',b',c',d',e',f',g',z',rfl⟩:=hq
 exact⟨_,_,_,_,_,_,_,_,h1,h2⟩
theorem Bfa (h l:List YI) (hh:h.length=8) (hl:l.length=8): ∃r:List YI,r.length=8∧Ei r=true∧As Fh (h,h,l,(l.length:Int),(0:Int),())=some (r,())∧As Ff (h,h,l,(0:Int),())=some (r,()):=by
 obtain⟨o1,o2,h1,h2,hq⟩:=Rt (B1:=Fh) (B2:=Ff)
  (fun i d1 d2=>∃out:List YI,out.length=8∧(∀j x,j<i→out[j]? =some x→0≤x.1∧x.1≤4294967295)∧d1=(h,out,l,(l.length:Int),(i:Int),())∧d2=(h,out,l,(i:Int),()))
  (fun o1 o2=>o1=o2∧o1.1.length=8∧Ei o1.1=true) 8
  (by
   rintro i d1 d2 hi ⟨out,ho,hb,rfl,rfl⟩
   left
   obtain⟨x,hx⟩: ∃x,h[i]? =some x:=⟨_,List.getElem?_eq_getElem zq0⟩
   obtain⟨y,hy⟩: ∃y,l[i]? =some y:=⟨_,List.getElem?_eq_getElem zq0⟩
   obtain⟨q,hq⟩: ∃q,out[i]? =some q:=⟨_,List.getElem?_eq_getElem zq0⟩
   unfold Fh Ff
   simp only[Ac,Ae,Ab,Al]
   rw[An zq0,An zq0,A4,A4]
   simp only[Bk hx,Bk hy,Bk hq,Ai,A6l,Int.toNat_natCast]
   rw[w64 (n:=(i:Int)+1) zq0]
   refine⟨_,_,rfl,rfl,out.set i (m32 (IntKind.i64.wrap (x.1+y.1)),()),by simp[ho],fun j v hj hv=>?_,rfl,rfl⟩
   rw[List.getElem?_set]at hv
   split at hv
   ·rename_i e
    subst e
    split at hv
    ·simp at hv;subst hv;exact Bhm _
    ·cases hv
   ·exact hb j v zq0 hv)
  (by
   rintro d1 d2 ⟨out,ho,hb,rfl,rfl⟩
   unfold Fh Ff
   simp only[Ac,Ae,Ab,Al]
   rw[Bj zq0,Au]
   refine⟨_,_,rfl,rfl,rfl,ho,?_⟩
   rw[At7]
   intro j x hx
   exact hb j x (by have:=(List.getElem?_eq_some_iff.1 hx).1;dsimp only at this;omega) hx)
  (d1:=(h,h,l,(l.length:Int),(0:Int),())) (d2:=(h,h,l,(0:Int),())) ⟨h,hh,fun j x hj=>by omega,rfl,rfl⟩
 obtain⟨rfl,hq1,hq2⟩:=hq
 exact⟨o1.1,hq1,hq2,h1,h2⟩
theorem Ada (h:List YI) (b:List YB) (hh:h.length≤1073741824) (hb:b.length≤4294967296):
  ∃r,L4 (h,()) (b,())=some (r,())∧Qb (h,()) (b,())=some (r,())∧r.length=h.length∧(Ei h=true→Ei r=true):=by
 obtain⟨w,hw1,hw2,hw3⟩:=A5k b hb
 unfold L4 P1 Qb Po
 simp only[Ac,Ae,Ab,Al,List.nil_append,List.length_nil,Nat.zero_add]
 rw[An zq0,A8,A8,Ahx _ _ zq0,Ba0 _ zq0,Ai,Ai]
 cases hwb:(Ei h && ((h.length:Int)==8))with
 |false=>exact⟨h,rfl,rfl,rfl,id⟩
 |true=>
  have hlen:h.length=8:=by simp at hwb;omega
  have hwd:Ei h=true:=by simp at hwb;exact hwb.1
  simp only[Bool.not_true,Au]
  by_cases hb64:b.length=64
  ·rw[Em (by simp[hb64]),Em (by simp[hb64]),hw1,hw2,Bho]
   simp only[Ai]
   match h,hlen with
   |[x0,x1,x2,x3,x4,x5,x6,x7],_=>
    simp only[show idx [x0,x1,x2,x3,x4,x5,x6,x7] (0:Int)=some x0 from rfl,show idx [x0,x1,x2,x3,x4,x5,x6,x7] (1:Int)=some x1 from rfl,show idx [x0,x1,x2,x3,x4,x5,x6,x7] (2:Int)=some x2 from rfl,show idx [x0,x1,x2,x3,x4,x5,x6,x7] (3:Int)=some x3 from rfl,
     show idx [x0,x1,x2,x3,x4,x5,x6,x7] (4:Int)=some x4 from rfl,show idx [x0,x1,x2,x3,x4,x5,x6,x7] (5:Int)=some x5 from rfl,show idx [x0,x1,x2,x3,x4,x5,x6,x7] (6:Int)=some x6 from rfl,show idx [x0,x1,x2,x3,x4,x5,x6,x7] (7:Int)=some x7 from rfl,Ai]
    obtain⟨a',b',c',d',e',f',g',z',q1,q2⟩:=Ba2 [x0,x1,x2,x3,x4,x5,x6,x7] [x0,x1,x2,x3,x4,x5,x6,x7] w (hw3 hb64) x0.1 x1.1 x2.1 x3.1 x4.1 x5.1 x6.1 x7.1
    rw[q1,q2]
    simp only[Ai]
    obtain⟨r,r1,r2,r3,r4⟩:=Bfa [x0,x1,x2,x3,x4,x5,x6,x7] [(a',()),(b',()),(c',()),(d',()),(e',()),(f',()),(g',()),(z',())] rfl rfl
    rw[r3,r4]
    exact⟨r,rfl,rfl,r1,fun _=>r2⟩
  ·have h': ¬((b.length:Int)=64):=by omega
   rw[Fu (by simpa using h'),Fu (by simpa using h')]
   exact⟨h,rfl,rfl,rfl,id⟩
def Gw (h:List YI) (b:List YB):List YI:=match L4 (h,()) (b,())with|some r=>r.1|none=>[]
theorem A78 (h:List YI) (b:List YB) (hh:h.length≤1073741824) (hb:b.length≤4294967296):L4 (h,()) (b,())=some (Gw h b,()):=by
 obtain⟨r,h1,h2,_⟩:=Ada h b hh hb
 unfold Gw;rw[h1]
theorem A79 (h:List YI) (b:List YB) (hh:h.length≤1073741824) (hb:b.length≤4294967296):Qb (h,()) (b,())=some (Gw h b,()):=by
 obtain⟨r,h1,h2,_⟩:=Ada h b hh hb
 unfold Gw;rw[h1,h2]
theorem X6 (h:List YI) (b:List YB) (hh:h.length≤1073741824) (hb:b.length≤4294967296):(Gw h b).length=h.length∧(Ei h=true→Ei (Gw h b)=true):=by
 obtain⟨r,h1,h2,h3,h4⟩:=Ada h b hh hb
 unfold Gw;rw[h1];exact⟨h3,h4⟩
end
end Go.Proofs.YtfljmgnghlpapaaGreat
