/-
  That the program and the reference answer alike, in plain terms, and that the laws answer true.
-/
import Derived.Test.YtmhhajdeafijmaaL9
namespace Go.Proofs.Ytmhhajdeafijmaa
open Go.RowKit
set_option linter.unusedVariables false
set_option linter.unusedSimpArgs false
set_option maxHeartbeats 4000000
noncomputable section
theorem Ak7 (b:List YB) (h:b.length≤1048576):(sha b).length=32:=by
 unfold sha
 rw[if_pos h,Pv,(N6 _ Cb _ (Nat.le_refl _) zq4).2.1];rfl
theorem N7 (b:List YB):(sha b).length≤32:=by rcases Aes b with h|h<;>omega
def Rp (k:List YB):List YB:=k++List.replicate (64-k.length) ((0:Int),())
def Cc (k:List YB):List YB:=Rp (if k.length>64 then sha k else k)
theorem So (k:List YB) (h:k.length≤64):Am Cp (k,())=some (Rp k,()):=by
 have hr:=Ca (B:=Cp) (64-k.length) (fun i=>(k++List.replicate i ((0:Int),()),())) (Rp k,())
  (fun i hi=>by
   unfold Cp
   simp only[Ad,Ah,Ac]
   rw[Af zq2,Ap,Af zq2,Ar,List.append_assoc,←List.replicate_succ'])
  (by
   unfold Cp
   simp only[Ad,Ah,Ac]
   rw[Av zq2,Ai];rfl)
 simpa using hr
theorem Afu (k:List YB) (h:k.length≤64):(Rp k).length=64:=by unfold Rp;simp;omega
theorem Ll (k:List YB):(Cc k).length=64:=by
 unfold Cc
 refine Afu _ ?_
 split
 ·have:=N7 k;omega
 ·omega
theorem Afv (k:List YB) (h:k.length≤1048576):K0 (k,())=some (Cc k,()):=by
 unfold K0 Kz Cc
 simp only[Ad,Ae,Ac]
 rw[Av zq0,Ai,G4 _ zq5,Ag]
 by_cases h1:k.length>64
 ·have:=N7 k
  rw[Af zq0,Ap,Aft _ zq0,Ag,So _ zq0,if_pos h1];rfl
 ·rw[Av zq0,Ai,So _ zq0,if_neg h1];rfl
theorem Afw (k:List YB) (h:k.length≤1048576):K3 (k,())=some (Cc k,()):=by
 unfold K3 K2 Cc
 simp only[Ad,Ae,Ac,Ah,List.nil_append,List.length_nil,Nat.zero_add]
 rw[Av zq0,Ai,Af zq0,Ar,show Gz=Cp from rfl]
 by_cases h1:k.length>64
 ·have:=N7 k
  rw[Af zq0,Ap,Afs,Ag,So _ zq0,if_pos h1];rfl
 ·rw[Av zq0,Ai,So _ zq0,if_neg h1];rfl
def Uj (x c:Int):YB:=(IntKind.u8.wrap ((BitVec.ofInt (IntKind.u8.bits) x ^^^ BitVec.ofInt (IntKind.u8.bits) c).toNat:Nat),())
def B4 (k:List YB) (c:Int):List YB:=k.map fun x=>Uj x.1 c
theorem Po (k:List YB) (c:Int):(B4 k c).length=k.length:=by simp[B4]
theorem Nf (k:List YB) (x:YB) (c:Int):B4 (k++[x]) c=B4 k c++[Uj x.1 c]:=by simp[B4]
theorem Abz (k:List YB) (c:Int) (h:k.length≤1048576):Kh (k,()) (c,())=some (B4 k c,()):=by
 have hr:=Ca (B:=Ew) k.length (fun i=>(c,B4 (k.take i) c,k,(k.length:Int),(i:Int),())) (B4 k c,())
  (fun i hi=>by
   have hx:=List.getElem?_eq_getElem hi
   unfold Ew
   simp only[Ad,Ae,Ac,Ah,Hg hi,Ap,Bc hx,Ag]
   rw[Af zq6,Ar,w64 zq0,←Fd hx,Nf]
   rfl)
  (by unfold Ew;simp only[Ad,Ac,Gn,Ai,List.take_length])
 unfold Kh O4
 simp only[Ae,Ac]
 rw[show Am Ew (c,[],k,(k.length:Int),(0:Int),())=_ from hr]
 rfl
theorem Akb (m k:List YB) (h:k.length=64):Am G2 (m,k,[],[],(0:Int),())=some (m,B4 k 54,B4 k 92,()):=by
 have hr:=Ca (B:=G2) 64 (fun i=>(m,k,B4 (k.take i) 54,B4 (k.take i) 92,(i:Int),())) (m,B4 k 54,B4 k 92,())
  (fun i hi=>by
   have hx:=List.getElem?_eq_getElem (show i<k.length by omega)
   unfold G2
   simp only[Ad,Ae,Ac,Ah]
   rw[Af zq0,Ap,Bc hx]
   simp only[Ag]
   rw[Af zq6,Ar,Af zq6,Ar,w64 zq0,←Fd hx,Nf,Nf]
   rfl)
  (by unfold G2;simp only[Ad,Ac,Ae,Ah];rw[Av zq0,Ai,←h,List.take_length])
 exact hr
def Dg (k m:List YB):List YB:=if k.length>1048576 then []else if m.length>1048512 then []else sha (B4 (Cc k) 92++sha (B4 (Cc k) 54++m))
theorem V4 (k m:List YB):Jd (k,()) (m,())=some (Dg k m,()):=by
 have hb:=Ll k
 unfold Jd T6 Dg
 simp only[Ad,Ae,Ac]
 by_cases h1:k.length>1048576
 ·rw[Af zq0,Ap,if_pos h1]
 rw[Av zq0,Ai,if_neg h1]
 by_cases h2:m.length>1048512
 ·rw[Af zq0,Ap,if_pos h2]
 have hs:=N7 (B4 (Cc k) 54++m)
 rw[Av zq0,Ai,if_neg h2,Afv _ zq0,Ag,Abz _ _ zq0,Ag,Abz _ _ zq0,Ag,Hx _ (by simp[cat,Po];omega) zq3,Ag,
  show cat [(B4 (Cc k) 54,()),(m,())]=B4 (Cc k) 54++m by simp[cat],Aft _ zq6,Ag,Hx _ (by simp[cat,Po];omega) zq3,Ag,
  show cat [(B4 (Cc k) 92,()),(sha (B4 (Cc k) 54++m),())]=B4 (Cc k) 92++sha (B4 (Cc k) 54++m) by simp[cat],Aft _ zq6,Ag]
theorem V5 (k m:List YB):Jf (k,()) (m,())=some (Dg k m,()):=by
 have hb:=Ll k
 unfold Jf T9 Dg
 simp only[Ad,Ae,Ac,Ah]
 by_cases h1:k.length>1048576
 ·rw[Af zq0,Ap,if_pos h1]
 rw[Av zq0,Ai,if_neg h1]
 by_cases h2:m.length>1048512
 ·rw[Af zq0,Ap,if_pos h2]
 have hs:=N7 (B4 (Cc k) 54++m)
 rw[Av zq0,Ai,if_neg h2,Afw _ zq0,Ag,Akb _ _ hb,Ag]
 simp only
 rw[Af zq6,Ar,Afs,Ag,Af zq6,Ar,Afs,Ag]
theorem Uk (k m:List YB):(Dg k m).length=32∨(Dg k m).length=0:=by
 unfold Dg
 split
 ·exact .inr rfl
 split
 ·exact .inr rfl
 exact Aes _
theorem Xr (k m:List YB) (h1:k.length≤1048576) (h2:m.length≤1048512):(Dg k m).length=32:=by
 have hb:=Ll k
 have hs:=N7 (B4 (Cc k) 54++m)
 unfold Dg
 rw[if_neg zq0,if_neg zq0]
 exact Ak7 _ zq6
def Xs (k m:List YB):List YB:=(Dg k m).take 16
theorem Al2 (k m:List YB):W5 (k,()) (m,())=some (Xs k m,()):=by
 unfold W5 W4 Xs
 simp only[Ad,Ae,Ac,Ah,V4,Ag]
 rcases Uk k m with h|h
 ·rw[Iv (by simp[h]),Af zq0,Ar]
  simp only[show(16:Int).toNat=16 from rfl,show(0:Int).toNat=0 from rfl,List.drop_zero]
  rw[G4 _ zq2,Ag]
 ·rw[Sm (by simp[h]),List.eq_nil_of_length_eq_zero h];rfl
theorem Al3 (k m:List YB):Xf (k,()) (m,())=some (Xs k m,()):=by
 unfold Xf Xe Xs
 simp only[Ad,Ae,Ac,Ah,V5,Ag,List.nil_append,List.length_nil,Nat.zero_add]
 rcases Uk k m with h|h
 ·rw[Av zq0,Ai,Af zq0,Ar]
  simp only[show(16:Int).toNat=16 from rfl,show(0:Int).toNat=0 from rfl,List.drop_zero]
  rw[Af zq2,Ar]
 ·rw[Af zq0,Ap,List.eq_nil_of_length_eq_zero h];rfl
def H7 (k n:List YB) (i:Int):List YB:=if inR i 0 6=true∧n.length≤100 then Dg k ((((115:Int),())::n)++C7 i 4 4)else []
theorem Ahi (k n:List YB) (i:Int):M6 (k,()) (n,()) (i,())=some (H7 k n i,()):=by
 unfold M6 M5 H7
 simp only[Ad,Ae,Ac,Hw,Ag]
 cases hi:inR i 0 6 with
 |false=>simp[br]
 |true=>
  simp only[Bool.not_true,Ai]
  by_cases hn:n.length≤100
  ·rw[Av zq0,Ai,Hx _ (by simp[cat];omega) zq3,Ag,show cat [([((115:Int),())],()),(n,())]=((115:Int),())::n by simp[cat],Aep _ _ zq2,Ag,V4,Ag,if_pos ⟨trivial,hn⟩]
  ·rw[Af zq0,Ap,if_neg (fun h=>hn h.2)]
theorem Ahj (k n:List YB) (i:Int):Na (k,()) (n,()) (i,())=some (H7 k n i,()):=by
 unfold Na M9 H7
 simp only[Ad,Ae,Ac,Ah,J0,Ag]
 cases hi:inR i 0 6 with
 |false=>simp[br]
 |true=>
  simp only[Bool.not_true,Ai]
  by_cases hn:n.length≤100
  ·rw[Av zq0,Ai,Af zq2,Ar,Jh _ _ zq2,Ag,V5,Ag,if_pos ⟨trivial,hn⟩];rfl
  ·rw[Af zq0,Ap,if_neg (fun h=>hn h.2)]
theorem Pw (k n:List YB) (i:Int) (h0:0≤i) (h1:i≤6) (hn:n.length≤100) (hk:k.length≤1048576):(H7 k n i).length=32:=by
 unfold H7
 rw[if_pos ⟨Kn.2 ⟨h0,h1⟩,hn⟩]
 exact Xr _ _ hk zq1
def blocks (k n:List YB) (i:Nat):List YB:=(List.range i).flatMap fun(j:Nat)=>H7 k n (j:Int)
theorem Ng (k n:List YB) (i:Nat):blocks k n (i+1)=blocks k n i++H7 k n (i:Int):=by unfold blocks;rw[List.range_succ,List.flatMap_append];simp
theorem Iw (k n:List YB) (i:Nat) (h:i≤7) (hn:n.length≤100) (hk:k.length≤1048576):(blocks k n i).length=32*i:=by
 induction i with
 |zero=>rfl
 |succ i ih=>rw[Ng,List.length_append,ih zq0,Pw _ _ _ zq0 zq0 hn hk];omega
def Dh (k n:List YB) (m:Nat):List YB:=(blocks k n ((m+31)/32)).take m
theorem V6 (k n:List YB) (m:Nat) (hm:m≤200) (hn:n.length≤100) (hk:k.length≤1048576):(Dh k n m).length=m:=by
 unfold Dh
 rw[List.length_take,Iw _ _ _ zq0 hn hk];omega
theorem Aiw (k n:List YB) (m:Nat) (hm:m≤200) (hn:n.length≤100) (hk:k.length≤1048576):O9 (k,()) (n,()) ((m:Int),())=some (Dh k n m,()):=by
 have hbl:=Iw k n ((m+31)/32) zq0 hn hk
 have hr:=Ca (B:=Ez) ((m+31)/32) (fun i=>(k,n,(m:Int),blocks k n i,(i:Int),())) ((m:Int),blocks k n ((m+31)/32),())
  (fun i hi=>by
   have hl:=Iw k n i zq0 hn hk
   have hl2:=Pw k n (i:Int) zq0 zq0 hn hk
   unfold Ez
   simp only[Ad,Ae,Ac,Ah]
   rw[Af zq0,Ap,Ahi,Ag,Af zq5,Ar,w64 zq0,Ng]
   rfl)
  (by
   unfold Ez
   simp only[Ad,Ae,Ac,Ah]
   rw[Av zq0,Ai])
 unfold O9 O8
 simp only[Ad,Ae,Ac,Ah,Hw,Ag]
 rw[Iv (by simp[inR];omega),Av zq0,Ai,Av zq0,Ai,show Am Ez (k,n,(m:Int),[],(0:Int),())=_ from hr,Ag]
 simp only[Int.toNat_natCast,show(0:Int).toNat=0 from rfl,List.drop_zero]
 rw[Af zq0,Ar,Af zq0,Ar,G4 _ zq2,Ag]
 rfl
theorem Aix (k n:List YB) (m:Nat) (hm:m≤200) (hn:n.length≤100) (hk:k.length≤1048576):Pg (k,()) (n,()) ((m:Int),())=some (Dh k n m,()):=by
 have hbl:=Iw k n ((m+31)/32) zq0 hn hk
 have hr:=Ca (B:=E4) ((m+31)/32) (fun i=>(k,n,(m:Int),blocks k n i,(i:Int),())) ((m:Int),blocks k n ((m+31)/32),())
  (fun i hi=>by
   have hl:=Iw k n i zq0 hn hk
   have hl2:=Pw k n (i:Int) zq0 zq0 hn hk
   unfold E4
   simp only[Ad,Ae,Ac,Ah]
   rw[Af zq0,Ap,Ahj,Ag,Af zq5,Ar,w64 zq0,Ng]
   rfl)
  (by
   unfold E4
   simp only[Ad,Ae,Ac,Ah]
   rw[Av zq0,Ai])
 unfold Pg Pf
 simp only[Ad,Ae,Ac,Ah,J0,Ag]
 rw[Iv (by simp[inR];omega),Av zq0,Ai,Av zq0,Ai,show Am E4 (k,n,(m:Int),[],(0:Int),())=_ from hr,Ag]
 simp only[Int.toNat_natCast,show(0:Int).toNat=0 from rfl,List.drop_zero,List.nil_append,List.length_nil,Nat.zero_add]
 rw[Af zq0,Ar,Af zq0,Ar,Af zq2,Ar]
 rfl
def Nh (st p:List YB) (i:Nat):List YB:=(List.range i).map fun j=>Uj (st[j]?.getD (0,())).1 (p[j]?.getD (0,())).1
theorem Zu (st p:List YB) (i:Nat):Nh st p (i+1)=Nh st p i++[Uj (st[i]?.getD (0,())).1 (p[i]?.getD (0,())).1]:=by unfold Nh;rw[List.range_succ,List.map_append];rfl
theorem Ab0 (st p:List YB) (i:Nat):(Nh st p i).length=i:=by simp[Nh]
def mix (k n p:List YB):List YB:=if p.length≤200∧n.length≤100∧k.length≤1048576 then Nh (Dh k n p.length) p p.length else []
theorem Al4 (k n p:List YB):W7 (k,()) (n,()) (p,())=some (mix k n p,()):=by
 unfold W7 W6 mix
 simp only[Ad,Ae,Ac]
 by_cases h1:p.length≤200
 ·rw[Av zq0,Ai]
  by_cases h2:n.length≤100
  ·rw[Av zq0,Ai]
   by_cases h3:k.length≤1048576
   ·have hs:=V6 k n p.length h1 h2 h3
    have hr:=Ca (B:=H3) p.length (fun i=>(p,Nh (Dh k n p.length) p i,Dh k n p.length,((Dh k n p.length).length:Int),(i:Int),())) (Nh (Dh k n p.length) p p.length,())
     (fun i hi=>by
      have hx:=List.getElem?_eq_getElem hi
      have hy:=List.getElem?_eq_getElem (show i<(Dh k n p.length).length by omega)
      unfold H3
      simp only[Ad,Ae,Ac,Ah]
      rw[Af zq0,Ap,Bc hy,Ag,Bc hx,Ag,Af (by simp[Ab0];omega),Ar,w64 zq0,Zu,hx,hy]
      rfl)
     (by
      unfold H3
      simp only[Ad,Ae,Ac,Ah]
      rw[Av zq0,Ai])
    rw[Av zq0,Ai,Aiw _ _ _ h1 h2 h3,Ag,if_pos ⟨h1,h2,h3⟩]
    simp only
    rw[show Am H3 (p,[],Dh k n p.length,((Dh k n p.length).length:Int),(0:Int),())=_ from hr]
    rfl
   ·rw[Af zq0,Ap,if_neg zq0]
  ·rw[Af zq0,Ap,if_neg zq0]
 ·rw[Af zq0,Ap,if_neg zq0]
theorem Ahk (a b:Int):Uj a b=Uj b a:=by unfold Uj;rw[BitVec.xor_comm]
theorem Al5 (k n p:List YB):Xh (k,()) (n,()) (p,())=some (mix k n p,()):=by
 unfold Xh Xg mix
 simp only[Ad,Ae,Ac]
 by_cases h1:p.length≤200
 ·rw[Av zq0,Ai]
  by_cases h2:n.length≤100
  ·rw[Av zq0,Ai]
   by_cases h3:k.length≤1048576
   ·have hs:=V6 k n p.length h1 h2 h3
    have hr:=Ca (B:=H5) p.length (fun i=>(p,Nh (Dh k n p.length) p i,Dh k n p.length,(i:Int),())) (Nh (Dh k n p.length) p p.length,())
     (fun i hi=>by
      have hx:=List.getElem?_eq_getElem hi
      have hy:=List.getElem?_eq_getElem (show i<(Dh k n p.length).length by omega)
      unfold H5
      simp only[Ad,Ae,Ac,Ah]
      rw[Af zq0,Ap,Bc hx,Ag,Bc hy,Ag,Af (by simp[Ab0];omega),Ar,w64 zq0,Zu,hx,hy]
      rw[Ahk]
      rfl)
     (by
      unfold H5
      simp only[Ad,Ae,Ac,Ah]
      rw[Av zq0,Ai])
    rw[Av zq0,Ai,Aix _ _ _ h1 h2 h3,Ag,if_pos ⟨h1,h2,h3⟩]
    simp only
    rw[show Am H5 (p,[],Dh k n p.length,(0:Int),())=_ from hr]
    rfl
   ·rw[Af zq0,Ap,if_neg zq0]
  ·rw[Af zq0,Ap,if_neg zq0]
 ·rw[Af zq0,Ap,if_neg zq0]
end
end Go.Proofs.Ytmhhajdeafijmaa
