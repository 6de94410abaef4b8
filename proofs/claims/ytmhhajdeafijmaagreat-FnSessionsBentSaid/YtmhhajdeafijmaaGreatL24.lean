/-
  That the program and the reference answer alike, in plain terms, and that the laws answer true.
-/
import Derived.Test.YtmhhajdeafijmaaGreatL21
namespace Go.Proofs.YtmhhajdeafijmaaGreat
open Go.RowKit
set_option linter.unusedVariables false
set_option linter.unusedSimpArgs false
set_option maxRecDepth 100000
set_option maxHeartbeats 4000000
noncomputable section
theorem Aa9 {E:Type} {p:E→Bool} {l:List E} {i:Nat} {x:E} (hx:l[i]? =some x):(l.take (i+1)).filter p=(l.take i).filter p++(bif p x then [x]else []):=by
 rw[←Ey hx,List.filter_append]
 cases h:p x<;>simp[List.filter_cons,h]
theorem Aj0 {E:Type} {p:E→Bool} {l:List E} {i:Nat}:((l.take i).filter p).length≤i:=by
 have:=List.length_filter_le p (l.take i)
 simp only[List.length_take]at this;omega
theorem Aba {E:Type} {f:E→Nat} {p:E→Bool}: ∀ {l:List E},Cm f (l.filter p)≤Cm f l
 |[]=>by simp[Cm]
 |a::r=>by
  have:=Aba (f:=f) (p:=p) (l:=r)
  simp only[List.filter_cons]
  split<;>simp only[Cm]<;>omega
theorem A8z (n:Nat):Nat.beq n n=true:=Nat.beq_refl n
theorem A96 {i:Nat}:Nat.ble (Int.toNat (i:Int)+1) (Int.toNat ((i:Int)+1))=true:=by
 rw[show Int.toNat (i:Int)=i by omega,show Int.toNat ((i:Int)+1)=i+1 by omega]
 exact Nat.ble_eq_true_of_le (Nat.le_refl _)
def Ig (n:Int) (x:Am):Bool:=decide (x.2.2.2.1≥n)
def Eb (p:A7) (n:Int):A7:=(p.1,p.2.1,p.2.2.1.filter (Ig n),())
theorem An7 (p:A7) (n:YI) (h:A0 p≤4294967296):Lf p n=some (Eb p n.1):=by
 have h':=h
 obtain⟨a,b,l,⟨⟩⟩:=p
 simp only[A0]at h'
 have hl:=Cj (B:=Dq) l.length (fun i=>(n.1,l,(l.length:Int),(i:Int),(0:Int),(0:Int),([]:List Am),a,b,(l.take i).filter (Ig n.1),())) ((0:Int),(0:Int),([]:List Am),a,b,l.filter (Ig n.1),())
  (fun i hi=>by
   have hx:=List.getElem?_eq_getElem hi
   have hle:=Aj0 (p:=Ig n.1) (l:=l) (i:=i)
   have hs:=Aa9 (p:=Ig n.1) hx
   unfold Dq
   simp only[Af,Ah,Ac,An,En hi,Az,Ce hx,Ai,A8z,A5]
   rw[w64 zq0,A96]
   simp only[A5]
   rw[hs]
   have hp:Ig n.1 l[i]=decide (l[i].2.2.2.1≥n.1):=rfl
   rw[hp]
   cases decide (l[i].2.2.2.1≥n.1)with
   |false=>simp[Ap]
   |true=>
    simp only[Az,cond_true]
    rw[Al zq1,A5]
    rfl)
  (by unfold Dq;simp only[Af,Ac,Eo,Ap,List.take_length])
 unfold Lf H7
 simp only[Ah,Ac]
 rw[Ss _ h]
 simp only[Ai]
 rw[show Ay Dq (n.1,l,(l.length:Int),(0:Int),(0:Int),(0:Int),([]:List Am),a,b,([]:List Am),())=_ from hl]
 rfl
theorem A0i (p:A7) (n:Int):A0 (Eb p n)≤A0 p:=by
 have h1:=List.length_filter_le (Ig n) p.2.2.1
 have h2:=Aba (f:=Cf) (p:=Ig n) (l:=p.2.2.1)
 simp only[A0,Eb];omega
def Af1 (p:A7) (n:Int):A7:=bif Fv p && inR n 0 1000000 then Eb p n else p
theorem A22 (p:A7) (n:YI) (h:A0 p≤4294967296):Vr p n=some (Af1 p n.1):=by
 have h':=h
 have hl0:p.2.2.1.length≤A0 p:=by simp only[A0];omega
 unfold Vr Vq Af1
 simp only[Af,Ah,Ac]
 rw[X6 p zq0,C4,Ov p h]
 simp only[Ai]
 obtain⟨a,b,l,⟨⟩⟩:=p
 simp only[A0]at h'
 have hl:=Cj (B:=Hd) l.length (fun i=>(n.1,(i:Int),a,b,l,(0:Int),(0:Int),([]:List Am),a,b,(l.take i).filter (Ig n.1),())) ((0:Int),(0:Int),([]:List Am),a,b,l.filter (Ig n.1),())
  (fun i hi=>by
   have hx:=List.getElem?_eq_getElem hi
   have hle:=Aj0 (p:=Ig n.1) (l:=l) (i:=i)
   have hs:=Aa9 (p:=Ig n.1) hx
   have hn:=Aci (f:=Cf) hx
   unfold Hd
   simp only[Af,Ah,Ac,An,En hi,Az,Ce hx,Ai]
   rw[w64 zq0,hs,X7 _ zq0]
   simp only[Ai]
   have hp:Ig n.1 l[i]=decide (l[i].2.2.2.1≥n.1):=rfl
   rw[hp]
   cases decide (l[i].2.2.2.1≥n.1)with
   |false=>simp[Ap]
   |true=>
    simp only[Az,cond_true]
    rw[Al zq1,A5]
    rfl)
  (by unfold Hd;simp only[Af,Ac,Eo,Ap,List.take_length])
 rw[show Ay Hd (n.1,(0:Int),a,b,l,(0:Int),(0:Int),([]:List Am),a,b,([]:List Am),())=_ from hl]
 cases Fv (a,b,l,())<;>cases inR n.1 0 1000000<;>rfl
theorem Axo (s:A4):A0 (B4 s)≤Bm s:=by simp only[A0,B4,Bm];omega
end
end Go.Proofs.YtmhhajdeafijmaaGreat
