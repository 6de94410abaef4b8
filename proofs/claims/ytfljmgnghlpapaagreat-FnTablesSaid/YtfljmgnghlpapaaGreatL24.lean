/-
  That the program and the reference answer alike, in plain terms, and that the laws answer true.
-/
import Derived.Test.YtfljmgnghlpapaaGreatL22
namespace Go.Proofs.YtfljmgnghlpapaaGreat
open Go.RowKit
set_option linter.unusedVariables false
set_option linter.unusedSimpArgs false
set_option maxRecDepth 100000
set_option maxHeartbeats 4000000
noncomputable section
theorem Aey {E:Type} {p:E→Bool} {l:List E} {i:Nat} {x:E} (hx:l[i]? =some x):(l.take (i+1)).filter p=(l.take i).filter p++(bif p x then [x]else []):=by
 rw[←Ew hx,List.filter_append]
 cases h:p x<;>simp[List.filter_cons,h]
theorem Ale {E:Type} {p:E→Bool} {l:List E} {i:Nat}:((l.take i).filter p).length≤i:=by
 have:=List.length_filter_le p (l.take i)
 simp only[List.length_take]at this;omega
theorem U9 {E:Type} {f:E→Nat} {p:E→Bool}: ∀ {l:List E},C4 f (l.filter p)≤C4 f l
 |[]=>by simp[C4]
 |a::r=>by
  have:=U9 (f:=f) (p:=p) (l:=r)
  simp only[List.filter_cons]
  split<;>simp only[C4]<;>omega
theorem Ayp (n:Nat):Nat.beq n n=true:=Nat.beq_refl n
theorem Azq {i:Nat}:Nat.ble (Int.toNat (i:Int)+1) (Int.toNat ((i:Int)+1))=true:=by
 rw[show Int.toNat (i:Int)=i by omega,show Int.toNat ((i:Int)+1)=i+1 by omega]
 exact Nat.ble_eq_true_of_le (Nat.le_refl _)
def Gk (n:Int) (x:Aj):Bool:=decide (x.2.2.2.1≥n)
def Df (p:A4) (n:Int):A4:=(p.1,p.2.1,p.2.2.1.filter (Gk n),())
theorem R2 (p:A4) (n:YI) (h:Av p≤4294967296):Gg p n=some (Df p n.1):=by
 have h':=h
 obtain⟨a,b,l,⟨⟩⟩:=p
 simp only[Av]at h'
 have hl:=Co (B:=C0) l.length (fun i=>(n.1,l,(l.length:Int),(i:Int),(0:Int),(0:Int),([]:List Aj),a,b,(l.take i).filter (Gk n.1),())) ((0:Int),(0:Int),([]:List Aj),a,b,l.filter (Gk n.1),())
  (fun i hi=>by
   have hx:=List.getElem?_eq_getElem hi
   have hle:=Ale (p:=Gk n.1) (l:=l) (i:=i)
   have hs:=Aey (p:=Gk n.1) hx
   unfold C0
   simp only[Ah,Ai,Ab,Am,Db hi,A9,B7 hx,Ak,Ayp,Bd]
   rw[w64 zq0,Azq]
   simp only[Bd]
   rw[hs]
   have hp:Gk n.1 l[i]=decide (l[i].2.2.2.1≥n.1):=rfl
   rw[hp]
   cases decide (l[i].2.2.2.1≥n.1)with
   |false=>simp[A1]
   |true=>
    simp only[A9,cond_true]
    rw[Ao zq1,Bd]
    rfl)
  (by unfold C0;simp only[Ah,Ab,Dc,A1,List.take_length])
 unfold Gg Gd
 simp only[Ai,Ab]
 rw[Ob _ h]
 simp only[Ak]
 rw[show As C0 (n.1,l,(l.length:Int),(0:Int),(0:Int),(0:Int),([]:List Aj),a,b,([]:List Aj),())=_ from hl]
 rfl
theorem Aez (p:A4) (n:Int):Av (Df p n)≤Av p:=by
 have h1:=List.length_filter_le (Gk n) p.2.2.1
 have h2:=U9 (f:=Ck) (p:=Gk n) (l:=p.2.2.1)
 simp only[Av,Df];omega
def Fw (p:A4) (n:Int):A4:=bif Cz p && inR n 0 1000000 then Df p n else p
theorem Amq (p:A4) (n:Int):Av (Fw p n)≤Av p:=by
 have:=Aez p n
 unfold Fw
 cases (Cz p && inR n 0 1000000)<;>simp only[cond_true,cond_false]<;>omega
theorem As3 (p:A4) (n:YI) (h:Av p≤4294967296):Me p n=some (Fw p n.1):=by
 have hl:p.2.2.1.length≤Av p:=by simp only[Av];omega
 unfold Me Q6 Fw
 simp only[Ah,Ai,Ab]
 rw[Acl p zq0,D0,Ob p h,R2 p n h]
 simp only[Ak]
 cases Cz p<;>cases inR n.1 0 1000000<;>rfl
theorem As4 (p:A4) (n:YI) (h:Av p≤4294967296):Rj p n=some (Fw p n.1):=by
 have h':=h
 have hl0:p.2.2.1.length≤Av p:=by simp only[Av];omega
 unfold Rj Qv Fw
 simp only[Ah,Ai,Ab]
 rw[Acm p zq0,Dd,Ou p h]
 simp only[Ak]
 obtain⟨a,b,l,⟨⟩⟩:=p
 simp only[Av]at h'
 have hl:=Co (B:=Fm) l.length (fun i=>(n.1,(i:Int),a,b,l,(0:Int),(0:Int),([]:List Aj),a,b,(l.take i).filter (Gk n.1),())) ((0:Int),(0:Int),([]:List Aj),a,b,l.filter (Gk n.1),())
  (fun i hi=>by
   have hx:=List.getElem?_eq_getElem hi
   have hle:=Ale (p:=Gk n.1) (l:=l) (i:=i)
   have hs:=Aey (p:=Gk n.1) hx
   have hn:=Ia (f:=Ck) hx
   unfold Fm
   simp only[Ah,Ai,Ab,Am,Db hi,A9,B7 hx,Ak]
   rw[w64 zq0,hs,Alb _ zq0]
   simp only[Ak]
   have hp:Gk n.1 l[i]=decide (l[i].2.2.2.1≥n.1):=rfl
   rw[hp]
   cases decide (l[i].2.2.2.1≥n.1)with
   |false=>simp[A1]
   |true=>
    simp only[A9,cond_true]
    rw[Ao zq1,Bd]
    rfl)
  (by unfold Fm;simp only[Ah,Ab,Dc,A1,List.take_length])
 rw[show As Fm (n.1,(0:Int),a,b,l,(0:Int),(0:Int),([]:List Aj),a,b,([]:List Aj),())=_ from hl]
 cases Cz (a,b,l,())<;>cases inR n.1 0 1000000<;>rfl
theorem Aod (s:Af):Av (Dq s)≤Az s:=by simp only[Av,Dq,Az];omega
end
end Go.Proofs.YtfljmgnghlpapaaGreat
