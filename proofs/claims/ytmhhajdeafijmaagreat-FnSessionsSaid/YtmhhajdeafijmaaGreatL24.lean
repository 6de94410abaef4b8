/-
  That the program and the reference answer alike, in plain terms, and that the laws answer true.
-/
import Derived.Test.YtmhhajdeafijmaaGreatL21
namespace Go.Proofs.YtmhhajdeafijmaaGreat
open Go.RowKit
set_option linter.unusedVariables false
set_option linter.unusedSimpArgs false
set_option maxRecDepth 100000
set_option maxHeartbeats 4000000
noncomputable section
theorem Abt {E:Type} {p:E→Bool} {l:List E} {i:Nat} {x:E} (hx:l[i]? =some x):(l.take (i+1)).filter p=(l.take i).filter p++(bif p x then [x]else []):=by
 rw[←Fe hx,List.filter_append]
 cases h:p x<;>simp[List.filter_cons,h]
theorem Ajq {E:Type} {p:E→Bool} {l:List E} {i:Nat}:((l.take i).filter p).length≤i:=by
 have:=List.length_filter_le p (l.take i)
 simp only[List.length_take]at this;omega
theorem Abu {E:Type} {f:E→Nat} {p:E→Bool}: ∀ {l:List E},Dg f (l.filter p)≤Dg f l
 |[]=>by simp[Dg]
 |a::r=>by
  have:=Abu (f:=f) (p:=p) (l:=r)
  simp only[List.filter_cons]
  split<;>simp only[Dg]<;>omega
theorem A82 (n:Nat):Nat.beq n n=true:=Nat.beq_refl n
theorem A95 {i:Nat}:Nat.ble (Int.toNat (i:Int)+1) (Int.toNat ((i:Int)+1))=true:=by
 rw[show Int.toNat (i:Int)=i by omega,show Int.toNat ((i:Int)+1)=i+1 by omega]
 exact Nat.ble_eq_true_of_le (Nat.le_refl _)
def I3 (n:Int) (x:Al):Bool:=decide (x.2.2.2.1≥n)
def De (p:A9) (n:Int):A9:=(p.1,p.2.1,p.2.2.1.filter (I3 n),())
theorem O8 (p:A9) (n:YI) (h:Au p≤4294967296):Ml p n=some (De p n.1):=by
 have h':=h
 obtain⟨a,b,l,⟨⟩⟩:=p
 simp only[Au]at h'
 have hl:=Cp (B:=D0) l.length (fun i=>(n.1,l,(l.length:Int),(i:Int),(0:Int),(0:Int),([]:List Al),a,b,(l.take i).filter (I3 n.1),())) ((0:Int),(0:Int),([]:List Al),a,b,l.filter (I3 n.1),())
  (fun i hi=>by
   have hx:=List.getElem?_eq_getElem hi
   have hle:=Ajq (p:=I3 n.1) (l:=l) (i:=i)
   have hs:=Abt (p:=I3 n.1) hx
   unfold D0
   simp only[Ae,Ai,Ac,Ak,Et hi,A0,Cb hx,Ag,A82,Ba]
   rw[w64 zq0,A95]
   simp only[Ba]
   rw[hs]
   have hp:I3 n.1 l[i]=decide (l[i].2.2.2.1≥n.1):=rfl
   rw[hp]
   cases decide (l[i].2.2.2.1≥n.1)with
   |false=>simp[An]
   |true=>
    simp only[A0,cond_true]
    rw[Am zq1,Ba]
    rfl)
  (by unfold D0;simp only[Ae,Ac,Eu,An,List.take_length])
 unfold Ml Iu
 simp only[Ai,Ac]
 rw[Ge _ h]
 simp only[Ag]
 rw[show Ay D0 (n.1,l,(l.length:Int),(0:Int),(0:Int),(0:Int),([]:List Al),a,b,([]:List Al),())=_ from hl]
 rfl
theorem Ami (p:A9) (n:Int):Au (De p n)≤Au p:=by
 have h1:=List.length_filter_le (I3 n) p.2.2.1
 have h2:=Abu (f:=Ea) (p:=I3 n) (l:=p.2.2.1)
 simp only[Au,De];omega
def Mt (p:A9) (n:Int):A9:=bif Ct p && inR n 0 1000000 then De p n else p
theorem A3a (p:A9) (n:YI) (h:Au p≤4294967296):W7 p n=some (Mt p n.1):=by
 have h':=h
 have hl0:p.2.2.1.length≤Au p:=by simp only[Au];omega
 unfold W7 Wj Mt
 simp only[Ae,Ai,Ac]
 rw[Zy p zq0,Cz,Po p h]
 simp only[Ag]
 obtain⟨a,b,l,⟨⟩⟩:=p
 simp only[Au]at h'
 have hl:=Cp (B:=Ht) l.length (fun i=>(n.1,(i:Int),a,b,l,(0:Int),(0:Int),([]:List Al),a,b,(l.take i).filter (I3 n.1),())) ((0:Int),(0:Int),([]:List Al),a,b,l.filter (I3 n.1),())
  (fun i hi=>by
   have hx:=List.getElem?_eq_getElem hi
   have hle:=Ajq (p:=I3 n.1) (l:=l) (i:=i)
   have hs:=Abt (p:=I3 n.1) hx
   have hn:=Ac5 (f:=Ea) hx
   unfold Ht
   simp only[Ae,Ai,Ac,Ak,Et hi,A0,Cb hx,Ag]
   rw[w64 zq0,hs,Z0 _ zq0]
   simp only[Ag]
   have hp:I3 n.1 l[i]=decide (l[i].2.2.2.1≥n.1):=rfl
   rw[hp]
   cases decide (l[i].2.2.2.1≥n.1)with
   |false=>simp[An]
   |true=>
    simp only[A0,cond_true]
    rw[Am zq1,Ba]
    rfl)
  (by unfold Ht;simp only[Ae,Ac,Eu,An,List.take_length])
 rw[show Ay Ht (n.1,(0:Int),a,b,l,(0:Int),(0:Int),([]:List Al),a,b,([]:List Al),())=_ from hl]
 cases Ct (a,b,l,())<;>cases inR n.1 0 1000000<;>rfl
theorem Xr (s:Bd):Au (A5 s)≤Bw s:=by simp only[Au,A5,Bw];omega
end
end Go.Proofs.YtmhhajdeafijmaaGreat
