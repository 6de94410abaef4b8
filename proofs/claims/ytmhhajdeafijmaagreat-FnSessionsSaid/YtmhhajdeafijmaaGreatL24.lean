/-
  That the program and the reference answer alike, in plain terms, and that the laws answer true.
-/
import Derived.Test.YtmhhajdeafijmaaGreatL21
namespace Go.Proofs.YtmhhajdeafijmaaGreat
open Go.RowKit
set_option linter.unusedVariables false
set_option linter.unusedSimpArgs false
set_option maxRecDepth 100000
set_option maxHeartbeats 4000000
noncomputable section
theorem Aa3 {E:Type} {p:E→Bool} {l:List E} {i:Nat} {x:E} (hx:l[i]? =some x):(l.take (i+1)).filter p=(l.take i).filter p++(bif p x then [x]else []):=by
 rw[←Fd hx,List.filter_append]
 cases h:p x<;>simp[List.filter_cons,h]
theorem Aif {E:Type} {p:E→Bool} {l:List E} {i:Nat}:((l.take i).filter p).length≤i:=by
 have:=List.length_filter_le p (l.take i)
 simp only[List.length_take]at this;omega
theorem Aa4 {E:Type} {f:E→Nat} {p:E→Bool}: ∀ {l:List E},Dd f (l.filter p)≤Dd f l
 |[]=>by simp[Dd]
 |a::r=>by
  have:=Aa4 (f:=f) (p:=p) (l:=r)
  simp only[List.filter_cons]
  split<;>simp only[Dd]<;>omega
theorem A6w (n:Nat):Nat.beq n n=true:=Nat.beq_refl n
theorem A7z {i:Nat}:Nat.ble (Int.toNat (i:Int)+1) (Int.toNat ((i:Int)+1))=true:=by
 rw[show Int.toNat (i:Int)=i by omega,show Int.toNat ((i:Int)+1)=i+1 by omega]
 exact Nat.ble_eq_true_of_le (Nat.le_refl _)
def Iu (n:Int) (x:Ap):Bool:=decide (x.2.2.2.1≥n)
def Dc (p:Bb) (n:Int):Bb:=(p.1,p.2.1,p.2.2.1.filter (Iu n),())
theorem Oj (p:Bb) (n:YI) (h:As p≤4294967296):Lx p n=some (Dc p n.1):=by
 have h':=h
 obtain⟨a,b,l,⟨⟩⟩:=p
 simp only[As]at h'
 have hl:=Cn (B:=Du) l.length (fun i=>(n.1,l,(l.length:Int),(i:Int),(0:Int),(0:Int),([]:List Ap),a,b,(l.take i).filter (Iu n.1),())) ((0:Int),(0:Int),([]:List Ap),a,b,l.filter (Iu n.1),())
  (fun i hi=>by
   have hx:=List.getElem?_eq_getElem hi
   have hle:=Aif (p:=Iu n.1) (l:=l) (i:=i)
   have hs:=Aa3 (p:=Iu n.1) hx
   unfold Du
   simp only[Ae,Ai,Ac,Aj,Ep hi,A0,Ca hx,Ag,A6w,A8]
   rw[w64 zq0,A7z]
   simp only[A8]
   rw[hs]
   have hp:Iu n.1 l[i]=decide (l[i].2.2.2.1≥n.1):=rfl
   rw[hp]
   cases decide (l[i].2.2.2.1≥n.1)with
   |false=>simp[Am]
   |true=>
    simp only[A0,cond_true]
    rw[Ak zq1,A8]
    rfl)
  (by unfold Du;simp only[Ae,Ac,Er,Am,List.take_length])
 unfold Lx Il
 simp only[Ai,Ac]
 rw[Gb _ h]
 simp only[Ag]
 rw[show Ay Du (n.1,l,(l.length:Int),(0:Int),(0:Int),(0:Int),([]:List Ap),a,b,([]:List Ap),())=_ from hl]
 rfl
theorem Aky (p:Bb) (n:Int):As (Dc p n)≤As p:=by
 have h1:=List.length_filter_le (Iu n) p.2.2.1
 have h2:=Aa4 (f:=D6) (p:=Iu n) (l:=p.2.2.1)
 simp only[As,Dc];omega
def Me (p:Bb) (n:Int):Bb:=bif Cq p && inR n 0 1000000 then Dc p n else p
theorem A04 (p:Bb) (n:YI) (h:As p≤4294967296):Vs p n=some (Me p n.1):=by
 have h':=h
 have hl0:p.2.2.1.length≤As p:=by simp only[As];omega
 unfold Vs Vr Me
 simp only[Ae,Ai,Ac]
 rw[Za p zq0,Cw,O5 p h]
 simp only[Ag]
 obtain⟨a,b,l,⟨⟩⟩:=p
 simp only[As]at h'
 have hl:=Cn (B:=Ho) l.length (fun i=>(n.1,(i:Int),a,b,l,(0:Int),(0:Int),([]:List Ap),a,b,(l.take i).filter (Iu n.1),())) ((0:Int),(0:Int),([]:List Ap),a,b,l.filter (Iu n.1),())
  (fun i hi=>by
   have hx:=List.getElem?_eq_getElem hi
   have hle:=Aif (p:=Iu n.1) (l:=l) (i:=i)
   have hs:=Aa3 (p:=Iu n.1) hx
   have hn:=Ab7 (f:=D6) hx
   unfold Ho
   simp only[Ae,Ai,Ac,Aj,Ep hi,A0,Ca hx,Ag]
   rw[w64 zq0,hs,Zc _ zq0]
   simp only[Ag]
   have hp:Iu n.1 l[i]=decide (l[i].2.2.2.1≥n.1):=rfl
   rw[hp]
   cases decide (l[i].2.2.2.1≥n.1)with
   |false=>simp[Am]
   |true=>
    simp only[A0,cond_true]
    rw[Ak zq1,A8]
    rfl)
  (by unfold Ho;simp only[Ae,Ac,Er,Am,List.take_length])
 rw[show Ay Ho (n.1,(0:Int),a,b,l,(0:Int),(0:Int),([]:List Ap),a,b,([]:List Ap),())=_ from hl]
 cases Cq (a,b,l,())<;>cases inR n.1 0 1000000<;>rfl
theorem W4 (s:Bp):As (A5 s)≤Br s:=by simp only[As,A5,Br];omega
end
end Go.Proofs.YtmhhajdeafijmaaGreat
