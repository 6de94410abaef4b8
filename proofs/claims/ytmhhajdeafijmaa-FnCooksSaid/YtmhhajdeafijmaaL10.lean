/-
  That the program and the reference answer alike, in plain terms, and that the laws answer true.
-/
import Derived.Test.YtmhhajdeafijmaaL9
namespace Go.Proofs.Ytmhhajdeafijmaa
open Go.RowKit
set_option linter.unusedVariables false
set_option linter.unusedSimpArgs false
set_option maxHeartbeats 4000000
noncomputable section
theorem Ak8 (b:List YB) (h:b.length≤1048576):(sha b).length=32:=by
 unfold sha
 rw[if_pos h,Px,(N8 _ Ca _ (Nat.le_refl _) zq4).2.1];rfl
theorem N9 (b:List YB):(sha b).length≤32:=by rcases Aev b with h|h<;>omega
def Rr (k:List YB):List YB:=k++List.replicate (64-k.length) ((0:Int),())
def Cb (k:List YB):List YB:=Rr (if k.length>64 then sha k else k)
theorem Sq (k:List YB) (h:k.length≤64):Am Cp (k,())=some (Rr k,()):=by
 have hr:=B9 (B:=Cp) (64-k.length) (fun i=>(k++List.replicate i ((0:Int),()),())) (Rr k,())
  (fun i hi=>by
   unfold Cp
   simp only[Ad,Ah,Ac]
   rw[Af zq2,Ap,Af zq2,Ar,List.append_assoc,←List.replicate_succ'])
  (by
   unfold Cp
   simp only[Ad,Ah,Ac]
   rw[Au zq2,Aj];rfl)
 simpa using hr
theorem Afy (k:List YB) (h:k.length≤64):(Rr k).length=64:=by unfold Rr;simp;omega
theorem Lo (k:List YB):(Cb k).length=64:=by
 unfold Cb
 refine Afy _ ?_
 split
 ·have:=N9 k;omega
 ·omega
theorem Afz (k:List YB) (h:k.length≤1048576):K3 (k,())=some (Cb k,()):=by
 unfold K3 K2 Cb
 simp only[Ad,Ae,Ac]
 rw[Au zq0,Aj,G6 _ zq5,Ag]
 by_cases h1:k.length>64
 ·have:=N9 k
  rw[Af zq0,Ap,Afx _ zq0,Ag,Sq _ zq0,if_pos h1];rfl
 ·rw[Au zq0,Aj,Sq _ zq0,if_neg h1];rfl
theorem Af0 (k:List YB) (h:k.length≤1048576):K6 (k,())=some (Cb k,()):=by
 unfold K6 K5 Cb
 simp only[Ad,Ae,Ac,Ah,List.nil_append,List.length_nil,Nat.zero_add]
 rw[Au zq0,Aj,Af zq0,Ar,show G3=Cp from rfl]
 by_cases h1:k.length>64
 ·have:=N9 k
  rw[Af zq0,Ap,Afw,Ag,Sq _ zq0,if_pos h1];rfl
 ·rw[Au zq0,Aj,Sq _ zq0,if_neg h1];rfl
def Um (x c:Int):YB:=(IntKind.u8.wrap ((BitVec.ofInt (IntKind.u8.bits) x ^^^ BitVec.ofInt (IntKind.u8.bits) c).toNat:Nat),())
def B0 (k:List YB) (c:Int):List YB:=k.map fun x=>Um x.1 c
theorem Pq (k:List YB) (c:Int):(B0 k c).length=k.length:=by simp[B0]
theorem Nh (k:List YB) (x:YB) (c:Int):B0 (k++[x]) c=B0 k c++[Um x.1 c]:=by simp[B0]
theorem Ab1 (k:List YB) (c:Int) (h:k.length≤1048576):Kk (k,()) (c,())=some (B0 k c,()):=by
 have hr:=B9 (B:=Ew) k.length (fun i=>(c,B0 (k.take i) c,k,(k.length:Int),(i:Int),())) (B0 k c,())
  (fun i hi=>by
   have hx:=List.getElem?_eq_getElem hi
   unfold Ew
   simp only[Ad,Ae,Ac,Ah,Hi hi,Ap,Bb hx,Ag]
   rw[Af zq6,Ar,w64 zq0,←Fd hx,Nh]
   rfl)
  (by unfold Ew;simp only[Ad,Ac,Gp,Aj,List.take_length])
 unfold Kk O6
 simp only[Ae,Ac]
 rw[show Am Ew (c,[],k,(k.length:Int),(0:Int),())=_ from hr]
 rfl
theorem Akd (m k:List YB) (h:k.length=64):Am G4 (m,k,[],[],(0:Int),())=some (m,B0 k 54,B0 k 92,()):=by
 have hr:=B9 (B:=G4) 64 (fun i=>(m,k,B0 (k.take i) 54,B0 (k.take i) 92,(i:Int),())) (m,B0 k 54,B0 k 92,())
  (fun i hi=>by
   have hx:=List.getElem?_eq_getElem (show i<k.length by omega)
   unfold G4
   simp only[Ad,Ae,Ac,Ah]
   rw[Af zq0,Ap,Bb hx]
   simp only[Ag]
   rw[Af zq6,Ar,Af zq6,Ar,w64 zq0,←Fd hx,Nh,Nh]
   rfl)
  (by unfold G4;simp only[Ad,Ac,Ae,Ah];rw[Au zq0,Aj,←h,List.take_length])
 exact hr
def Di (k m:List YB):List YB:=if k.length>1048576 then []else if m.length>1048512 then []else sha (B0 (Cb k) 92++sha (B0 (Cb k) 54++m))
theorem V7 (k m:List YB):Jf (k,()) (m,())=some (Di k m,()):=by
 have hb:=Lo k
 unfold Jf T9 Di
 simp only[Ad,Ae,Ac]
 by_cases h1:k.length>1048576
 ·rw[Af zq0,Ap,if_pos h1]
 rw[Au zq0,Aj,if_neg h1]
 by_cases h2:m.length>1048512
 ·rw[Af zq0,Ap,if_pos h2]
 have hs:=N9 (B0 (Cb k) 54++m)
 rw[Au zq0,Aj,if_neg h2,Afz _ zq0,Ag,Ab1 _ _ zq0,Ag,Ab1 _ _ zq0,Ag,Hz _ (by simp[cat,Pq];omega) zq3,Ag,
  show cat [(B0 (Cb k) 54,()),(m,())]=B0 (Cb k) 54++m by simp[cat],Afx _ zq6,Ag,Hz _ (by simp[cat,Pq];omega) zq3,Ag,
  show cat [(B0 (Cb k) 92,()),(sha (B0 (Cb k) 54++m),())]=B0 (Cb k) 92++sha (B0 (Cb k) 54++m) by simp[cat],Afx _ zq6,Ag]
theorem V8 (k m:List YB):Jh (k,()) (m,())=some (Di k m,()):=by
 have hb:=Lo k
 unfold Jh Uc Di
 simp only[Ad,Ae,Ac,Ah]
 by_cases h1:k.length>1048576
 ·rw[Af zq0,Ap,if_pos h1]
 rw[Au zq0,Aj,if_neg h1]
 by_cases h2:m.length>1048512
 ·rw[Af zq0,Ap,if_pos h2]
 have hs:=N9 (B0 (Cb k) 54++m)
 rw[Au zq0,Aj,if_neg h2,Af0 _ zq0,Ag,Akd _ _ hb,Ag]
 simp only
 rw[Af zq6,Ar,Afw,Ag,Af zq6,Ar,Afw,Ag]
theorem Un (k m:List YB):(Di k m).length=32∨(Di k m).length=0:=by
 unfold Di
 split
 ·exact .inr rfl
 split
 ·exact .inr rfl
 exact Aev _
theorem Xu (k m:List YB) (h1:k.length≤1048576) (h2:m.length≤1048512):(Di k m).length=32:=by
 have hb:=Lo k
 have hs:=N9 (B0 (Cb k) 54++m)
 unfold Di
 rw[if_neg zq0,if_neg zq0]
 exact Ak8 _ zq6
def Xv (k m:List YB):List YB:=(Di k m).take 16
theorem Al3 (k m:List YB):W8 (k,()) (m,())=some (Xv k m,()):=by
 unfold W8 W7 Xv
 simp only[Ad,Ae,Ac,Ah,V7,Ag]
 rcases Un k m with h|h
 ·rw[Iy (by simp[h]),Af zq0,Ar]
  simp only[show(16:Int).toNat=16 from rfl,show(0:Int).toNat=0 from rfl,List.drop_zero]
  rw[G6 _ zq2,Ag]
 ·rw[Sp (by simp[h]),List.eq_nil_of_length_eq_zero h];rfl
theorem Al4 (k m:List YB):Xi (k,()) (m,())=some (Xv k m,()):=by
 unfold Xi Xh Xv
 simp only[Ad,Ae,Ac,Ah,V8,Ag,List.nil_append,List.length_nil,Nat.zero_add]
 rcases Un k m with h|h
 ·rw[Au zq0,Aj,Af zq0,Ar]
  simp only[show(16:Int).toNat=16 from rfl,show(0:Int).toNat=0 from rfl,List.drop_zero]
  rw[Af zq2,Ar]
 ·rw[Af zq0,Ap,List.eq_nil_of_length_eq_zero h];rfl
def Ia (k n:List YB) (i:Int):List YB:=if inR i 0 6=true∧n.length≤100 then Di k ((((115:Int),())::n)++C7 i 4 4)else []
theorem Ahl (k n:List YB) (i:Int):M8 (k,()) (n,()) (i,())=some (Ia k n i,()):=by
 unfold M8 M7 Ia
 simp only[Ad,Ae,Ac,Hy,Ag]
 cases hi:inR i 0 6 with
 |false=>simp[br]
 |true=>
  simp only[Bool.not_true,Aj]
  by_cases hn:n.length≤100
  ·rw[Au zq0,Aj,Hz _ (by simp[cat];omega) zq3,Ag,show cat [([((115:Int),())],()),(n,())]=((115:Int),())::n by simp[cat],Aes _ _ zq2,Ag,V7,Ag,if_pos ⟨trivial,hn⟩]
  ·rw[Af zq0,Ap,if_neg (fun h=>hn h.2)]
theorem Ahm (k n:List YB) (i:Int):Nc (k,()) (n,()) (i,())=some (Ia k n i,()):=by
 unfold Nc Nb Ia
 simp only[Ad,Ae,Ac,Ah,J2,Ag]
 cases hi:inR i 0 6 with
 |false=>simp[br]
 |true=>
  simp only[Bool.not_true,Aj]
  by_cases hn:n.length≤100
  ·rw[Au zq0,Aj,Af zq2,Ar,Jj _ _ zq2,Ag,V8,Ag,if_pos ⟨trivial,hn⟩];rfl
  ·rw[Af zq0,Ap,if_neg (fun h=>hn h.2)]
theorem Py (k n:List YB) (i:Int) (h0:0≤i) (h1:i≤6) (hn:n.length≤100) (hk:k.length≤1048576):(Ia k n i).length=32:=by
 unfold Ia
 rw[if_pos ⟨Kq.2 ⟨h0,h1⟩,hn⟩]
 exact Xu _ _ hk zq1
def blocks (k n:List YB) (i:Nat):List YB:=(List.range i).flatMap fun(j:Nat)=>Ia k n (j:Int)
theorem Ni (k n:List YB) (i:Nat):blocks k n (i+1)=blocks k n i++Ia k n (i:Int):=by unfold blocks;rw[List.range_succ,List.flatMap_append];simp
theorem Iz (k n:List YB) (i:Nat) (h:i≤7) (hn:n.length≤100) (hk:k.length≤1048576):(blocks k n i).length=32*i:=by
 induction i with
 |zero=>rfl
 |succ i ih=>rw[Ni,List.length_append,ih zq0,Py _ _ _ zq0 zq0 hn hk];omega
def Dj (k n:List YB) (m:Nat):List YB:=(blocks k n ((m+31)/32)).take m
theorem V9 (k n:List YB) (m:Nat) (hm:m≤200) (hn:n.length≤100) (hk:k.length≤1048576):(Dj k n m).length=m:=by
 unfold Dj
 rw[List.length_take,Iz _ _ _ zq0 hn hk];omega
theorem Aiz (k n:List YB) (m:Nat) (hm:m≤200) (hn:n.length≤100) (hk:k.length≤1048576):Pb (k,()) (n,()) ((m:Int),())=some (Dj k n m,()):=by
 have hbl:=Iz k n ((m+31)/32) zq0 hn hk
 have hr:=B9 (B:=Ez) ((m+31)/32) (fun i=>(k,n,(m:Int),blocks k n i,(i:Int),())) ((m:Int),blocks k n ((m+31)/32),())
  (fun i hi=>by
   have hl:=Iz k n i zq0 hn hk
   have hl2:=Py k n (i:Int) zq0 zq0 hn hk
   unfold Ez
   simp only[Ad,Ae,Ac,Ah]
   rw[Af zq0,Ap,Ahl,Ag,Af zq5,Ar,w64 zq0,Ni]
   rfl)
  (by
   unfold Ez
   simp only[Ad,Ae,Ac,Ah]
   rw[Au zq0,Aj])
 unfold Pb Pa
 simp only[Ad,Ae,Ac,Ah,Hy,Ag]
 rw[Iy (by simp[inR];omega),Au zq0,Aj,Au zq0,Aj,show Am Ez (k,n,(m:Int),[],(0:Int),())=_ from hr,Ag]
 simp only[Int.toNat_natCast,show(0:Int).toNat=0 from rfl,List.drop_zero]
 rw[Af zq0,Ar,Af zq0,Ar,G6 _ zq2,Ag]
 rfl
theorem Ai0 (k n:List YB) (m:Nat) (hm:m≤200) (hn:n.length≤100) (hk:k.length≤1048576):Pi (k,()) (n,()) ((m:Int),())=some (Dj k n m,()):=by
 have hbl:=Iz k n ((m+31)/32) zq0 hn hk
 have hr:=B9 (B:=E4) ((m+31)/32) (fun i=>(k,n,(m:Int),blocks k n i,(i:Int),())) ((m:Int),blocks k n ((m+31)/32),())
  (fun i hi=>by
   have hl:=Iz k n i zq0 hn hk
   have hl2:=Py k n (i:Int) zq0 zq0 hn hk
   unfold E4
   simp only[Ad,Ae,Ac,Ah]
   rw[Af zq0,Ap,Ahm,Ag,Af zq5,Ar,w64 zq0,Ni]
   rfl)
  (by
   unfold E4
   simp only[Ad,Ae,Ac,Ah]
   rw[Au zq0,Aj])
 unfold Pi Ph
 simp only[Ad,Ae,Ac,Ah,J2,Ag]
 rw[Iy (by simp[inR];omega),Au zq0,Aj,Au zq0,Aj,show Am E4 (k,n,(m:Int),[],(0:Int),())=_ from hr,Ag]
 simp only[Int.toNat_natCast,show(0:Int).toNat=0 from rfl,List.drop_zero,List.nil_append,List.length_nil,Nat.zero_add]
 rw[Af zq0,Ar,Af zq0,Ar,Af zq2,Ar]
 rfl
def Nj (st p:List YB) (i:Nat):List YB:=(List.range i).map fun j=>Um (st[j]?.getD (0,())).1 (p[j]?.getD (0,())).1
theorem Zx (st p:List YB) (i:Nat):Nj st p (i+1)=Nj st p i++[Um (st[i]?.getD (0,())).1 (p[i]?.getD (0,())).1]:=by unfold Nj;rw[List.range_succ,List.map_append];rfl
theorem Ab2 (st p:List YB) (i:Nat):(Nj st p i).length=i:=by simp[Nj]
def mix (k n p:List YB):List YB:=if p.length≤200∧n.length≤100∧k.length≤1048576 then Nj (Dj k n p.length) p p.length else []
theorem Al5 (k n p:List YB):Xa (k,()) (n,()) (p,())=some (mix k n p,()):=by
 unfold Xa W9 mix
 simp only[Ad,Ae,Ac]
 by_cases h1:p.length≤200
 ·rw[Au zq0,Aj]
  by_cases h2:n.length≤100
  ·rw[Au zq0,Aj]
   by_cases h3:k.length≤1048576
   ·have hs:=V9 k n p.length h1 h2 h3
    have hr:=B9 (B:=H6) p.length (fun i=>(p,Nj (Dj k n p.length) p i,Dj k n p.length,((Dj k n p.length).length:Int),(i:Int),())) (Nj (Dj k n p.length) p p.length,())
     (fun i hi=>by
      have hx:=List.getElem?_eq_getElem hi
      have hy:=List.getElem?_eq_getElem (show i<(Dj k n p.length).length by omega)
      unfold H6
      simp only[Ad,Ae,Ac,Ah]
      rw[Af zq0,Ap,Bb hy,Ag,Bb hx,Ag,Af (by simp[Ab2];omega),Ar,w64 zq0,Zx,hx,hy]
      rfl)
     (by
      unfold H6
      simp only[Ad,Ae,Ac,Ah]
      rw[Au zq0,Aj])
    rw[Au zq0,Aj,Aiz _ _ _ h1 h2 h3,Ag,if_pos ⟨h1,h2,h3⟩]
    simp only
    rw[show Am H6 (p,[],Dj k n p.length,((Dj k n p.length).length:Int),(0:Int),())=_ from hr]
    rfl
   ·rw[Af zq0,Ap,if_neg zq0]
  ·rw[Af zq0,Ap,if_neg zq0]
 ·rw[Af zq0,Ap,if_neg zq0]
theorem Ahn (a b:Int):Um a b=Um b a:=by unfold Um;rw[BitVec.xor_comm]
theorem Al6 (k n p:List YB):Xk (k,()) (n,()) (p,())=some (mix k n p,()):=by
 unfold Xk Xj mix
 simp only[Ad,Ae,Ac]
 by_cases h1:p.length≤200
 ·rw[Au zq0,Aj]
  by_cases h2:n.length≤100
  ·rw[Au zq0,Aj]
   by_cases h3:k.length≤1048576
   ·have hs:=V9 k n p.length h1 h2 h3
    have hr:=B9 (B:=H8) p.length (fun i=>(p,Nj (Dj k n p.length) p i,Dj k n p.length,(i:Int),())) (Nj (Dj k n p.length) p p.length,())
     (fun i hi=>by
      have hx:=List.getElem?_eq_getElem hi
      have hy:=List.getElem?_eq_getElem (show i<(Dj k n p.length).length by omega)
      unfold H8
      simp only[Ad,Ae,Ac,Ah]
      rw[Af zq0,Ap,Bb hx,Ag,Bb hy,Ag,Af (by simp[Ab2];omega),Ar,w64 zq0,Zx,hx,hy]
      rw[Ahn]
      rfl)
     (by
      unfold H8
      simp only[Ad,Ae,Ac,Ah]
      rw[Au zq0,Aj])
    rw[Au zq0,Aj,Ai0 _ _ _ h1 h2 h3,Ag,if_pos ⟨h1,h2,h3⟩]
    simp only
    rw[show Am H8 (p,[],Dj k n p.length,(0:Int),())=_ from hr]
    rfl
   ·rw[Af zq0,Ap,if_neg zq0]
  ·rw[Af zq0,Ap,if_neg zq0]
 ·rw[Af zq0,Ap,if_neg zq0]
end
end Go.Proofs.Ytmhhajdeafijmaa
