/-
  That the program and the reference answer alike, in plain terms, and that the laws answer true.
-/
import Derived.Test.YtfljmgnghlpapaaGreatL23
namespace Go.Proofs.YtfljmgnghlpapaaGreat
open Go.RowKit
set_option linter.unusedVariables false
set_option linter.unusedSimpArgs false
set_option maxRecDepth 100000
set_option maxHeartbeats 4000000
noncomputable section
theorem Adf {E:Type} {p:E→Bool} {l:List E} {i:Nat} {x:E} (hx:l[i]? =some x):(l.take (i+1)).filter p=(l.take i).filter p++(bif p x then [x]else []):=by
 rw[←Dg hx,List.filter_append]
 cases h:p x<;>simp[List.filter_cons,h]
theorem Amx {E:Type} {p:E→Bool} {l:List E} {i:Nat}:((l.take i).filter p).length≤i:=by
 have:=List.length_filter_le p (l.take i)
 simp only[List.length_take]at this;omega
theorem Adg {E:Type} {f:E→Nat} {p:E→Bool}: ∀ {l:List E},Co f (l.filter p)≤Co f l
 |[]=>by simp[Co]
 |a::r=>by
  have:=Adg (f:=f) (p:=p) (l:=r)
  simp only[List.filter_cons]
  split<;>simp only[Co]<;>omega
theorem Bfi (n:Nat):Nat.beq n n=true:=Nat.beq_refl n
theorem Bgs {i:Nat}:Nat.ble (Int.toNat (i:Int)+1) (Int.toNat ((i:Int)+1))=true:=by
 rw[show Int.toNat (i:Int)=i by omega,show Int.toNat ((i:Int)+1)=i+1 by omega]
 exact Nat.ble_eq_true_of_le (Nat.le_refl _)
def Iw (n:Int) (x:Ap):Bool:=decide (x.2.2.2.1≥n)
def El (p:Bb) (n:Int):Bb:=(p.1,p.2.1,p.2.2.1.filter (Iw n),())
theorem X8 (p:Bb) (n:YI) (h:A1 p≤4294967296):Iu p n=some (El p n.1):=by
 have h':=h
 obtain⟨a,b,l,⟨⟩⟩:=p
 simp only[A1]at h'
 have hl:=B8 (B:=D9) l.length (fun i=>(n.1,l,(l.length:Int),(i:Int),(0:Int),(0:Int),([]:List Ap),a,b,(l.take i).filter (Iw n.1),())) ((0:Int),(0:Int),([]:List Ap),a,b,l.filter (Iw n.1),())
  (fun i hi=>by
   have hx:=List.getElem?_eq_getElem hi
   have hle:=Amx (p:=Iw n.1) (l:=l) (i:=i)
   have hs:=Adf (p:=Iw n.1) hx
   unfold D9
   simp only[Ac,Ae,Ab,Al,By hi,A4,Bk hx,Ai,Bfi,A8]
   rw[w64 zq0,Bgs]
   simp only[A8]
   rw[hs]
   have hp:Iw n.1 l[i]=decide (l[i].2.2.2.1≥n.1):=rfl
   rw[hp]
   cases decide (l[i].2.2.2.1≥n.1)with
   |false=>simp[Au]
   |true=>
    simp only[A4,cond_true]
    rw[An zq1,A8]
    rfl)
  (by unfold D9;simp only[Ac,Ab,Bz,Au,List.take_length])
 unfold Iu Iq
 simp only[Ae,Ab]
 rw[S9 _ h]
 simp only[Ai]
 rw[show As D9 (n.1,l,(l.length:Int),(0:Int),(0:Int),(0:Int),([]:List Ap),a,b,([]:List Ap),())=_ from hl]
 rfl
theorem Apt (p:Bb) (n:Int):A1 (El p n)≤A1 p:=by
 have h1:=List.length_filter_le (Iw n) p.2.2.1
 have h2:=Adg (f:=Dm) (p:=Iw n) (l:=p.2.2.1)
 simp only[A1,El];omega
def Hz (p:Bb) (n:Int):Bb:=bif D7 p && inR n 0 1000000 then El p n else p
theorem Az8 (p:Bb) (n:Int):A1 (Hz p n)≤A1 p:=by
 have:=Apt p n
 unfold Hz
 cases (D7 p && inR n 0 1000000)<;>simp only[cond_true,cond_false]<;>omega
theorem A8m (p:Bb) (n:YI) (h:A1 p≤4294967296):Qp p n=some (Hz p n.1):=by
 have hl:p.2.2.1.length≤A1 p:=by simp only[A1];omega
 unfold Qp W9 Hz
 simp only[Ac,Ae,Ab]
 rw[Amn p zq0,Bw,S9 p h,X8 p n h]
 simp only[Ai]
 cases D7 p<;>cases inR n.1 0 1000000<;>rfl
theorem A8n (p:Bb) (n:YI) (h:A1 p≤4294967296):Xl p n=some (Hz p n.1):=by
 have h':=h
 have hl0:p.2.2.1.length≤A1 p:=by simp only[A1];omega
 unfold Xl Wl Hz
 simp only[Ac,Ae,Ab]
 rw[Amo p zq0,Df,T0 p h]
 simp only[Ai]
 obtain⟨a,b,l,⟨⟩⟩:=p
 simp only[A1]at h'
 have hl:=B8 (B:=Hi) l.length (fun i=>(n.1,(i:Int),a,b,l,(0:Int),(0:Int),([]:List Ap),a,b,(l.take i).filter (Iw n.1),())) ((0:Int),(0:Int),([]:List Ap),a,b,l.filter (Iw n.1),())
  (fun i hi=>by
   have hx:=List.getElem?_eq_getElem hi
   have hle:=Amx (p:=Iw n.1) (l:=l) (i:=i)
   have hs:=Adf (p:=Iw n.1) hx
   have hn:=Fb (f:=Dm) hx
   unfold Hi
   simp only[Ac,Ae,Ab,Al,By hi,A4,Bk hx,Ai]
   rw[w64 zq0,hs,Aye _ zq0]
   simp only[Ai]
   have hp:Iw n.1 l[i]=decide (l[i].2.2.2.1≥n.1):=rfl
   rw[hp]
   cases decide (l[i].2.2.2.1≥n.1)with
   |false=>simp[Au]
   |true=>
    simp only[A4,cond_true]
    rw[An zq1,A8]
    rfl)
  (by unfold Hi;simp only[Ac,Ab,Bz,Au,List.take_length])
 rw[show As Hi (n.1,(0:Int),a,b,l,(0:Int),(0:Int),([]:List Ap),a,b,([]:List Ap),())=_ from hl]
 cases D7 (a,b,l,())<;>cases inR n.1 0 1000000<;>rfl
theorem A2t (s:Ad):A1 (Ew s)≤Aw s:=by simp only[A1,Ew,Aw];omega
end
end Go.Proofs.YtfljmgnghlpapaaGreat
