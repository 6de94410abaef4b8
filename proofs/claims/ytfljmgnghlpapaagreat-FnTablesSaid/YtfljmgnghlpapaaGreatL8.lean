/-
  That the program and the reference answer alike, in plain terms, and that the laws answer true.
-/
import Derived.Test.YtfljmgnghlpapaaGreatL7
namespace Go.Proofs.YtfljmgnghlpapaaGreat
open Go.RowKit
set_option linter.unusedVariables false
set_option linter.unusedSimpArgs false
set_option maxHeartbeats 4000000
noncomputable section
def kL:List YI:=Ah0.map fun x=>(x,())
theorem A0h:Ard=some (kL,()):=rfl
theorem Aqm (n:YI):Aaj n=some (Ahn n.1,()):=rfl
theorem A0i (i:Nat) (h:i<64):idx kL (i:Int)=some (Ahn (i:Int),()):=by
 rw[Asr]
 unfold kL Ahn
 rw[List.getElem?_map,if_pos zq0,Int.toNat_natCast]
 have:i<Ah0.length:=by simpa [Ah0] using h
 rw[List.getElem?_eq_getElem this];rfl
theorem Aux (l:List YI) (hl:l.length≤4294967296):Uy (l,())=some (D5 l && ((l.length:Int)==8),()):=by
 have h:=Fk (B:=Hy) l (fun i=>(l,(i:Int),())) (fun _ e=> !inR e.1 0 4294967295) (false,()) (l,())
  (fun i x hi hx=>by
   unfold Hy
   simp (disch:=omega) only[Ah,Ai,Ab,Db hi,A9,B7 hx,Ak,Dd,w64]
   rfl)
  (by unfold Hy;simp only[Ah,Ai,Ab,Dc,A1])
 unfold Uy Tu
 simp only[Ai,Ej,Ab]
 rw[show((0:Int))=((0:Nat):Int)from rfl,h]
 unfold D5
 cases Dk (fun _ (e:YI)=> !inR e.1 0 4294967295) l<;>rfl
theorem Auy (x:BitVec IntKind.i64.bits):BitVec.ofInt (IntKind.i64.bits) (4294967295:Int) ^^^ x=x ^^^ BitVec.ofInt (IntKind.i64.bits) (4294967295:Int):=BitVec.xor_comm _ _
theorem Ah1 {l:List YI}:D5 l=true↔ ∀(j:Nat) (x:YI),l[j]? =some x→0≤x.1∧x.1≤4294967295:=by
 unfold D5
 rw[Jj]
 simp only[Bool.not_eq_false',E8]
theorem Auz (h out w:List YI) (hw:w.length=64) (a b c d e f g z:Int):
  ∃a' b' c' d' e' f' g' z',As G7 (h,out,w,a,b,c,d,e,f,g,z,(0:Int),())=some (h,out,a',b',c',d',e',f',g',z',())∧
   As El (h,out,kL,w,a,b,c,d,e,f,g,z,(0:Int),())=some (h,out,a',b',c',d',e',f',g',z',()):=by
 obtain⟨o1,o2,h1,h2,hq⟩:=Rr (B1:=G7) (B2:=El)
  (fun i d1 d2=>∃a b c d e f g z:Int,d1=(h,out,w,a,b,c,d,e,f,g,z,(i:Int),())∧d2=(h,out,kL,w,a,b,c,d,e,f,g,z,(i:Int),()))
  (fun o1 o2=>o1=o2∧ ∃a b c d e f g z:Int,o1=(h,out,a,b,c,d,e,f,g,z,())) 64
  (by
   rintro i d1 d2 hi ⟨a,b,c,d,e,f,g,z,rfl,rfl⟩
   left
   obtain⟨x,hx⟩: ∃x,w[i]? =some x:=⟨_,List.getElem?_eq_getElem zq0⟩
   have hk:=A0i i hi
   unfold G7 El
   simp only[Ah,Ai,Ab,Am]
   rw[Ao zq0,A9,A9]
   simp (disch:=decide) only[Ahy,Ahz,Ak,Aqm,B7 hx,hk,Ark,Auy]
   rw[w64 (n:=(i:Int)+1) zq0]
   refine⟨_,_,rfl,rfl,_,_,_,_,_,_,_,_,rfl,?_⟩
   simp only[Prod.mk.injEq,true_and,and_true]
   exact⟨Awo _ _,Awn _ _,by omega⟩)
  (by
   rintro d1 d2 ⟨a,b,c,d,e,f,g,z,rfl,rfl⟩
   unfold G7 El
   simp only[Ah,Ai,Ab,Am]
   exact⟨_,_,rfl,rfl,rfl,_,_,_,_,_,_,_,_,rfl⟩)
  (d1:=(h,out,w,a,b,c,d,e,f,g,z,(0:Int),())) (d2:=(h,out,kL,w,a,b,c,d,e,f,g,z,(0:Int),())) ⟨a,b,c,d,e,f,g,z,rfl,rfl⟩
 obtain⟨rfl,a',b',c',d',e',f',g',z',rfl⟩:=hq
 exact⟨_,_,_,_,_,_,_,_,h1,h2⟩
theorem Ayh (h l:List YI) (hh:h.length=8) (hl:l.length=8): ∃r:List YI,r.length=8∧D5 r=true∧As Gi (h,h,l,(l.length:Int),(0:Int),())=some (r,())∧As Ea (h,h,l,(0:Int),())=some (r,()):=by
 obtain⟨o1,o2,h1,h2,hq⟩:=Rr (B1:=Gi) (B2:=Ea)
  (fun i d1 d2=>∃out:List YI,out.length=8∧(∀j x,j<i→out[j]? =some x→0≤x.1∧x.1≤4294967295)∧d1=(h,out,l,(l.length:Int),(i:Int),())∧d2=(h,out,l,(i:Int),()))
  (fun o1 o2=>o1=o2∧o1.1.length=8∧D5 o1.1=true) 8
  (by
   rintro i d1 d2 hi ⟨out,ho,hb,rfl,rfl⟩
   left
   obtain⟨x,hx⟩: ∃x,h[i]? =some x:=⟨_,List.getElem?_eq_getElem zq0⟩
   obtain⟨y,hy⟩: ∃y,l[i]? =some y:=⟨_,List.getElem?_eq_getElem zq0⟩
   obtain⟨q,hq⟩: ∃q,out[i]? =some q:=⟨_,List.getElem?_eq_getElem zq0⟩
   unfold Gi Ea
   simp only[Ah,Ai,Ab,Am]
   rw[Ao zq0,Ao zq0,A9,A9]
   simp only[B7 hx,B7 hy,B7 hq,Ak,Ark,Int.toNat_natCast]
   rw[w64 (n:=(i:Int)+1) zq0]
   refine⟨_,_,rfl,rfl,out.set i (m32 (IntKind.i64.wrap (x.1+y.1)),()),by simp[ho],fun j v hj hv=>?_,rfl,rfl⟩
   rw[List.getElem?_set]at hv
   split at hv
   ·rename_i e
    subst e
    split at hv
    ·simp at hv;subst hv;exact A0f _
    ·cases hv
   ·exact hb j v zq0 hv)
  (by
   rintro d1 d2 ⟨out,ho,hb,rfl,rfl⟩
   unfold Gi Ea
   simp only[Ah,Ai,Ab,Am]
   rw[Bn zq0,A1]
   refine⟨_,_,rfl,rfl,rfl,ho,?_⟩
   rw[Ah1]
   intro j x hx
   exact hb j x (by have:=(List.getElem?_eq_some_iff.1 hx).1;dsimp only at this;omega) hx)
  (d1:=(h,h,l,(l.length:Int),(0:Int),())) (d2:=(h,h,l,(0:Int),())) ⟨h,hh,fun j x hj=>by omega,rfl,rfl⟩
 obtain⟨rfl,hq1,hq2⟩:=hq
 exact⟨o1.1,hq1,hq2,h1,h2⟩
theorem Aew (h:List YI) (b:List YB) (hh:h.length≤1073741824) (hb:b.length≤4294967296):
  ∃r,Mi (h,()) (b,())=some (r,())∧L4 (h,()) (b,())=some (r,())∧r.length=h.length∧(D5 h=true→D5 r=true):=by
 obtain⟨w,hw1,hw2,hw3⟩:=Aql b hb
 unfold Mi Ack L4 Lo
 simp only[Ah,Ai,Ab,Am,List.nil_append,List.length_nil,Nat.zero_add]
 rw[Ao zq0,Bd,Bd,Ahu _ _ zq0,Aux _ zq0,Ak,Ak]
 cases hwb:(D5 h && ((h.length:Int)==8))with
 |false=>exact⟨h,rfl,rfl,rfl,id⟩
 |true=>
  have hlen:h.length=8:=by simp at hwb;omega
  have hwd:D5 h=true:=by simp at hwb;exact hwb.1
  simp only[Bool.not_true,A1]
  by_cases hb64:b.length=64
  ·rw[Fg (by simp[hb64]),Fg (by simp[hb64]),hw1,hw2,A0h]
   simp only[Ak]
   match h,hlen with
   |[x0,x1,x2,x3,x4,x5,x6,x7],_=>
    simp only[show idx [x0,x1,x2,x3,x4,x5,x6,x7] (0:Int)=some x0 from rfl,show idx [x0,x1,x2,x3,x4,x5,x6,x7] (1:Int)=some x1 from rfl,show idx [x0,x1,x2,x3,x4,x5,x6,x7] (2:Int)=some x2 from rfl,show idx [x0,x1,x2,x3,x4,x5,x6,x7] (3:Int)=some x3 from rfl,
     show idx [x0,x1,x2,x3,x4,x5,x6,x7] (4:Int)=some x4 from rfl,show idx [x0,x1,x2,x3,x4,x5,x6,x7] (5:Int)=some x5 from rfl,show idx [x0,x1,x2,x3,x4,x5,x6,x7] (6:Int)=some x6 from rfl,show idx [x0,x1,x2,x3,x4,x5,x6,x7] (7:Int)=some x7 from rfl,Ak]
    obtain⟨a',b',c',d',e',f',g',z',q1,q2⟩:=Auz [x0,x1,x2,x3,x4,x5,x6,x7] [x0,x1,x2,x3,x4,x5,x6,x7] w (hw3 hb64) x0.1 x1.1 x2.1 x3.1 x4.1 x5.1 x6.1 x7.1
    rw[q1,q2]
    simp only[Ak]
    obtain⟨r,r1,r2,r3,r4⟩:=Ayh [x0,x1,x2,x3,x4,x5,x6,x7] [(a',()),(b',()),(c',()),(d',()),(e',()),(f',()),(g',()),(z',())] rfl rfl
    rw[r3,r4]
    exact⟨r,rfl,rfl,r1,fun _=>r2⟩
  ·have h': ¬((b.length:Int)=64):=by omega
   rw[Gj (by simpa using h'),Gj (by simpa using h')]
   exact⟨h,rfl,rfl,rfl,id⟩
def Iw (h:List YI) (b:List YB):List YI:=match Mi (h,()) (b,())with|some r=>r.1|none=>[]
theorem Asv (h:List YI) (b:List YB) (hh:h.length≤1073741824) (hb:b.length≤4294967296):L4 (h,()) (b,())=some (Iw h b,()):=by
 obtain⟨r,h1,h2,_⟩:=Aew h b hh hb
 unfold Iw;rw[h1,h2]
theorem Acp (h:List YI) (b:List YB) (hh:h.length≤1073741824) (hb:b.length≤4294967296):(Iw h b).length=h.length∧(D5 h=true→D5 (Iw h b)=true):=by
 obtain⟨r,h1,h2,h3,h4⟩:=Aew h b hh hb
 unfold Iw;rw[h1];exact⟨h3,h4⟩
end
end Go.Proofs.YtfljmgnghlpapaaGreat
