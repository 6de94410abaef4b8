/-
  That the program and the reference answer alike, in plain terms, and that the laws answer true.
-/
import Derived.Test.YtmhhajdeafijmaaGreatL9
namespace Go.Proofs.YtmhhajdeafijmaaGreat
open Go.RowKit
set_option linter.unusedVariables false
set_option linter.unusedSimpArgs false
set_option maxHeartbeats 4000000
noncomputable section
theorem A7u (b:List YB) (h:b.length≤1048576):(sha b).length=32:=by
 unfold sha
 rw[if_pos h,Aey,(Ab5 _ Ee _ (Nat.le_refl _) zq4).2.1];rfl
theorem Ab6 (b:List YB):(sha b).length≤32:=by rcases Ay7 b with h|h<;>omega
def Aia (k:List YB):List YB:=k++List.replicate (64-k.length) ((0:Int),())
def Eg (k:List YB):List YB:=Aia (if k.length>64 then sha k else k)
theorem Ajf (k:List YB) (h:k.length≤64):Ay Fb (k,())=some (Aia k,()):=by
 have hr:=Cn (B:=Fb) (64-k.length) (fun i=>(k++List.replicate i ((0:Int),()),())) (Aia k,())
  (fun i hi=>by
   unfold Fb
   simp only[Ae,Aj,Ac]
   rw[Ak zq1,A0,Ak zq1,A8,List.append_assoc,←List.replicate_succ'])
  (by
   unfold Fb
   simp only[Ae,Aj,Ac]
   rw[Bh zq1,Am];rfl)
 simpa using hr
theorem A0v (k:List YB) (h:k.length≤64):(Aia k).length=64:=by unfold Aia;simp;omega
theorem Wz (k:List YB):(Eg k).length=64:=by
 unfold Eg
 refine A0v _ ?_
 split
 ·have:=Ab6 k;omega
 ·omega
theorem A0w (k:List YB) (h:k.length≤1048576):Wa (k,())=some (Eg k,()):=by
 unfold Wa V9 Eg
 simp only[Ae,Ai,Ac]
 rw[Bh zq0,Am,Cu _ zq2,Ag]
 by_cases h1:k.length>64
 ·have:=Ab6 k
  rw[Ak zq0,A0,A0u _ zq0,Ag,Ajf _ zq0,if_pos h1];rfl
 ·rw[Bh zq0,Am,Ajf _ zq0,if_neg h1];rfl
theorem A0x (k:List YB) (h:k.length≤1048576):Vl (k,())=some (Eg k,()):=by
 unfold Vl Vk Eg
 simp only[Ae,Ai,Ac,Aj,List.nil_append,List.length_nil,Nat.zero_add]
 rw[Bh zq0,Am,Ak zq0,A8,show Mo=Fb from rfl]
 by_cases h1:k.length>64
 ·have:=Ab6 k
  rw[Ak zq0,A0,A0t,Ag,Ajf _ zq0,if_pos h1];rfl
 ·rw[Bh zq0,Am,Ajf _ zq0,if_neg h1];rfl
def Al2 (x c:Int):YB:=(IntKind.u8.wrap ((BitVec.ofInt (IntKind.u8.bits) x ^^^ BitVec.ofInt (IntKind.u8.bits) c).toNat:Nat),())
def D0 (k:List YB) (c:Int):List YB:=k.map fun x=>Al2 x.1 c
theorem Aer (k:List YB) (c:Int):(D0 k c).length=k.length:=by simp[D0]
theorem Aaz (k:List YB) (x:YB) (c:Int):D0 (k++[x]) c=D0 k c++[Al2 x.1 c]:=by simp[D0]
theorem Au7 (k:List YB) (c:Int) (h:k.length≤1048576):Us (k,()) (c,())=some (D0 k c,()):=by
 have hr:=Cn (B:=Jh) k.length (fun i=>(c,D0 (k.take i) c,k,(k.length:Int),(i:Int),())) (D0 k c,())
  (fun i hi=>by
   have hx:=List.getElem?_eq_getElem hi
   unfold Jh
   simp only[Ae,Ai,Ac,Aj,Ep hi,A0,Ca hx,Ag]
   rw[Ak zq5,A8,w64 zq0,←Fd hx,Aaz]
   rfl)
  (by unfold Jh;simp only[Ae,Ac,Er,Am,List.take_length])
 unfold Us Adx
 simp only[Ai,Ac]
 rw[show Ay Jh (c,[],k,(k.length:Int),(0:Int),())=_ from hr]
 rfl
theorem A6r (m k:List YB) (h:k.length=64):Ay Mp (m,k,[],[],(0:Int),())=some (m,D0 k 54,D0 k 92,()):=by
 have hr:=Cn (B:=Mp) 64 (fun i=>(m,k,D0 (k.take i) 54,D0 (k.take i) 92,(i:Int),())) (m,D0 k 54,D0 k 92,())
  (fun i hi=>by
   have hx:=List.getElem?_eq_getElem (show i<k.length by omega)
   unfold Mp
   simp only[Ae,Ai,Ac,Aj]
   rw[Ak zq0,A0,Ca hx]
   simp only[Ag]
   rw[Ak zq5,A8,Ak zq5,A8,w64 zq0,←Fd hx,Aaz,Aaz]
   rfl)
  (by unfold Mp;simp only[Ae,Ac,Ai,Aj];rw[Bh zq0,Am,←h,List.take_length])
 exact hr
def F3 (k m:List YB):List YB:=if k.length>1048576 then []else if m.length>1048512 then []else sha (D0 (Eg k) 92++sha (D0 (Eg k) 54++m))
theorem Aoh (k m:List YB):Wb (k,()) (m,())=some (F3 k m,()):=by
 have hb:=Wz k
 unfold Wb All F3
 simp only[Ae,Ai,Ac]
 by_cases h1:k.length>1048576
 ·rw[Ak zq0,A0,if_pos h1]
 rw[Bh zq0,Am,if_neg h1]
 by_cases h2:m.length>1048512
 ·rw[Ak zq0,A0,if_pos h2]
 have hs:=Ab6 (D0 (Eg k) 54++m)
 rw[Bh zq0,Am,if_neg h2,A0w _ zq0,Ag,Au7 _ _ zq0,Ag,Au7 _ _ zq0,Ag,Kh _ (by simp[cat,Aer];omega) zq3,Ag,
  show cat [(D0 (Eg k) 54,()),(m,())]=D0 (Eg k) 54++m by simp[cat],A0u _ zq5,Ag,Kh _ (by simp[cat,Aer];omega) zq3,Ag,
  show cat [(D0 (Eg k) 92,()),(sha (D0 (Eg k) 54++m),())]=D0 (Eg k) 92++sha (D0 (Eg k) 54++m) by simp[cat],A0u _ zq5,Ag]
theorem Aib (k m:List YB):Ri (k,()) (m,())=some (F3 k m,()):=by
 have hb:=Wz k
 unfold Ri Alg F3
 simp only[Ae,Ai,Ac,Aj]
 by_cases h1:k.length>1048576
 ·rw[Ak zq0,A0,if_pos h1]
 rw[Bh zq0,Am,if_neg h1]
 by_cases h2:m.length>1048512
 ·rw[Ak zq0,A0,if_pos h2]
 have hs:=Ab6 (D0 (Eg k) 54++m)
 rw[Bh zq0,Am,if_neg h2,A0x _ zq0,Ag,A6r _ _ hb,Ag]
 simp only
 rw[Ak zq5,A8,A0t,Ag,Ak zq5,A8,A0t,Ag]
theorem Aez (k m:List YB):(F3 k m).length=32∨(F3 k m).length=0:=by
 unfold F3
 split
 ·exact .inr rfl
 split
 ·exact .inr rfl
 exact Ay7 _
theorem Va (k m:List YB) (h1:k.length≤1048576) (h2:m.length≤1048512):(F3 k m).length=32:=by
 have hb:=Wz k
 have hs:=Ab6 (D0 (Eg k) 54++m)
 unfold F3
 rw[if_neg zq0,if_neg zq0]
 exact A7u _ zq5
def Qx (k m:List YB):List YB:=(F3 k m).take 16
theorem A0y (k m:List YB):Ajb (k,()) (m,())=some (Qx k m,()):=by
 unfold Ajb Apv Qx
 simp only[Ae,Ai,Ac,Aj,Aoh,Ag]
 rcases Aez k m with h|h
 ·rw[C4 (by simp[h]),Ak zq0,A8]
  simp only[show(16:Int).toNat=16 from rfl,show(0:Int).toNat=0 from rfl,List.drop_zero]
  rw[Cu _ zq1,Ag]
 ·rw[Fg (by simp[h]),List.eq_nil_of_length_eq_zero h];rfl
theorem A0z (k m:List YB):Aja (k,()) (m,())=some (Qx k m,()):=by
 unfold Aja Apm Qx
 simp only[Ae,Ai,Ac,Aj,Aib,Ag,List.nil_append,List.length_nil,Nat.zero_add]
 rcases Aez k m with h|h
 ·rw[Bh zq0,Am,Ak zq0,A8]
  simp only[show(16:Int).toNat=16 from rfl,show(0:Int).toNat=0 from rfl,List.drop_zero]
  rw[Ak zq1,A8]
 ·rw[Ak zq0,A0,List.eq_nil_of_length_eq_zero h];rfl
theorem Ay8 (k m:List YB):(Qx k m).length≤16:=by unfold Qx;simp;omega
def O0 (k n:List YB) (i:Int):List YB:=if inR i 0 6=true∧n.length≤100 then F3 k ((((115:Int),())::n)++Ft i 4 4)else []
theorem A2z (k n:List YB) (i:Int):Aae (k,()) (n,()) (i,())=some (O0 k n i,()):=by
 unfold Aae Aad O0
 simp only[Ae,Ai,Ac,Ch,Ag]
 cases hi:inR i 0 6 with
 |false=>simp[br]
 |true=>
  simp only[Bool.not_true,Am]
  by_cases hn:n.length≤100
  ·rw[Bh zq0,Am,Kh _ (by simp[cat];omega) zq3,Ag,show cat [([((115:Int),())],()),(n,())]=((115:Int),())::n by simp[cat],Ab4 _ _ zq1,Ag,Aoh,Ag,if_pos ⟨trivial,hn⟩]
  ·rw[Ak zq0,A0,if_neg (fun h=>hn h.2)]
theorem A20 (k n:List YB) (i:Int):Z4 (k,()) (n,()) (i,())=some (O0 k n i,()):=by
 unfold Z4 Z3 O0
 simp only[Ae,Ai,Ac,Aj,Cw,Ag]
 cases hi:inR i 0 6 with
 |false=>simp[br]
 |true=>
  simp only[Bool.not_true,Am]
  by_cases hn:n.length≤100
  ·rw[Bh zq0,Am,Ak zq1,A8,Rv _ _ zq1,Ag,Aib,Ag,if_pos ⟨trivial,hn⟩];rfl
  ·rw[Ak zq0,A0,if_neg (fun h=>hn h.2)]
theorem Ae0 (k n:List YB) (i:Int) (h0:0≤i) (h1:i≤6) (hn:n.length≤100) (hk:k.length≤1048576):(O0 k n i).length=32:=by
 unfold O0
 rw[if_pos ⟨Bl.2 ⟨h0,h1⟩,hn⟩]
 exact Va _ _ hk (by simp[Gz];omega)
def blocks (k n:List YB) (i:Nat):List YB:=(List.range i).flatMap fun(j:Nat)=>O0 k n (j:Int)
theorem Aa0 (k n:List YB) (i:Nat):blocks k n (i+1)=blocks k n i++O0 k n (i:Int):=by unfold blocks;rw[List.range_succ,List.flatMap_append];simp
theorem Qy (k n:List YB) (i:Nat) (h:i≤7) (hn:n.length≤100) (hk:k.length≤1048576):(blocks k n i).length=32*i:=by
 induction i with
 |zero=>rfl
 |succ i ih=>rw[Aa0,List.length_append,ih zq0,Ae0 _ _ _ zq0 zq0 hn hk];omega
def Gg (k n:List YB) (m:Nat):List YB:=(blocks k n ((m+31)/32)).take m
theorem Aoi (k n:List YB) (m:Nat) (hm:m≤200) (hn:n.length≤100) (hk:k.length≤1048576):(Gg k n m).length=m:=by
 unfold Gg
 rw[List.length_take,Qy _ _ _ zq0 hn hk];omega
theorem A43 (k n:List YB) (m:Nat) (hm:m≤200) (hn:n.length≤100) (hk:k.length≤1048576):Adz (k,()) (n,()) ((m:Int),())=some (Gg k n m,()):=by
 have hbl:=Qy k n ((m+31)/32) zq0 hn hk
 have hr:=Cn (B:=Ji) ((m+31)/32) (fun i=>(k,n,(m:Int),blocks k n i,(i:Int),())) ((m:Int),blocks k n ((m+31)/32),())
  (fun i hi=>by
   have hl:=Qy k n i zq0 hn hk
   have hl2:=Ae0 k n (i:Int) zq0 zq0 hn hk
   unfold Ji
   simp only[Ae,Ai,Ac,Aj]
   rw[Ak zq0,A0,A2z,Ag,Ak zq2,A8,w64 zq0,Aa0]
   rfl)
  (by
   unfold Ji
   simp only[Ae,Ai,Ac,Aj]
   rw[Bh zq0,Am])
 unfold Adz Ady
 simp only[Ae,Ai,Ac,Aj,Ch,Ag]
 rw[C4 (by simp[inR];omega),Bh zq0,Am,Bh zq0,Am,show Ay Ji (k,n,(m:Int),[],(0:Int),())=_ from hr,Ag]
 simp only[Int.toNat_natCast,show(0:Int).toNat=0 from rfl,List.drop_zero]
 rw[Ak zq0,A8,Ak zq0,A8,Cu _ zq1,Ag]
 rfl
theorem A44 (k n:List YB) (m:Nat) (hm:m≤200) (hn:n.length≤100) (hk:k.length≤1048576):Ac7 (k,()) (n,()) ((m:Int),())=some (Gg k n m,()):=by
 have hbl:=Qy k n ((m+31)/32) zq0 hn hk
 have hr:=Cn (B:=Jd) ((m+31)/32) (fun i=>(k,n,(m:Int),blocks k n i,(i:Int),())) ((m:Int),blocks k n ((m+31)/32),())
  (fun i hi=>by
   have hl:=Qy k n i zq0 hn hk
   have hl2:=Ae0 k n (i:Int) zq0 zq0 hn hk
   unfold Jd
   simp only[Ae,Ai,Ac,Aj]
   rw[Ak zq0,A0,A20,Ag,Ak zq2,A8,w64 zq0,Aa0]
   rfl)
  (by
   unfold Jd
   simp only[Ae,Ai,Ac,Aj]
   rw[Bh zq0,Am])
 unfold Ac7 Ac6
 simp only[Ae,Ai,Ac,Aj,Cw,Ag]
 rw[C4 (by simp[inR];omega),Bh zq0,Am,Bh zq0,Am,show Ay Jd (k,n,(m:Int),[],(0:Int),())=_ from hr,Ag]
 simp only[Int.toNat_natCast,show(0:Int).toNat=0 from rfl,List.drop_zero,List.nil_append,List.length_nil,Nat.zero_add]
 rw[Ak zq0,A8,Ak zq0,A8,Ak zq1,A8]
 rfl
def W0 (st p:List YB) (i:Nat):List YB:=(List.range i).map fun j=>Al2 (st[j]?.getD (0,())).1 (p[j]?.getD (0,())).1
theorem Ar3 (st p:List YB) (i:Nat):W0 st p (i+1)=W0 st p i++[Al2 (st[i]?.getD (0,())).1 (p[i]?.getD (0,())).1]:=by unfold W0;rw[List.range_succ,List.map_append];rfl
theorem Ae1 (st p:List YB) (i:Nat):(W0 st p i).length=i:=by simp[W0]
def mix (k n p:List YB):List YB:=if p.length≤200∧n.length≤100∧k.length≤1048576 then W0 (Gg k n p.length) p p.length else []
theorem Aic (k n p:List YB):(mix k n p).length≤p.length:=by
 unfold mix
 split
 ·rw[Ae1];exact Nat.le_refl _
 ·simp
theorem A6f (k n p:List YB):Ajc (k,()) (n,()) (p,())=some (mix k n p,()):=by
 unfold Ajc Apw mix
 simp only[Ae,Ai,Ac]
 by_cases h1:p.length≤200
 ·rw[Bh zq0,Am]
  by_cases h2:n.length≤100
  ·rw[Bh zq0,Am]
   by_cases h3:k.length≤1048576
   ·have hs:=Aoi k n p.length h1 h2 h3
    have hr:=Cn (B:=Oy) p.length (fun i=>(p,W0 (Gg k n p.length) p i,Gg k n p.length,((Gg k n p.length).length:Int),(i:Int),())) (W0 (Gg k n p.length) p p.length,())
     (fun i hi=>by
      have hx:=List.getElem?_eq_getElem hi
      have hy:=List.getElem?_eq_getElem (show i<(Gg k n p.length).length by omega)
      unfold Oy
      simp only[Ae,Ai,Ac,Aj]
      rw[Ak zq0,A0,Ca hy,Ag,Ca hx,Ag,Ak (by simp[Ae1];omega),A8,w64 zq0,Ar3,hx,hy]
      rfl)
     (by
      unfold Oy
      simp only[Ae,Ai,Ac,Aj]
      rw[Bh zq0,Am])
    rw[Bh zq0,Am,A43 _ _ _ h1 h2 h3,Ag,if_pos ⟨h1,h2,h3⟩]
    simp only
    rw[show Ay Oy (p,[],Gg k n p.length,((Gg k n p.length).length:Int),(0:Int),())=_ from hr]
    rfl
   ·rw[Ak zq0,A0,if_neg zq0]
  ·rw[Ak zq0,A0,if_neg zq0]
 ·rw[Ak zq0,A0,if_neg zq0]
theorem A21 (a b:Int):Al2 a b=Al2 b a:=by unfold Al2;rw[BitVec.xor_comm]
theorem A6g (k n p:List YB):Apo (k,()) (n,()) (p,())=some (mix k n p,()):=by
 unfold Apo Apn mix
 simp only[Ae,Ai,Ac]
 by_cases h1:p.length≤200
 ·rw[Bh zq0,Am]
  by_cases h2:n.length≤100
  ·rw[Bh zq0,Am]
   by_cases h3:k.length≤1048576
   ·have hs:=Aoi k n p.length h1 h2 h3
    have hr:=Cn (B:=Ox) p.length (fun i=>(p,W0 (Gg k n p.length) p i,Gg k n p.length,(i:Int),())) (W0 (Gg k n p.length) p p.length,())
     (fun i hi=>by
      have hx:=List.getElem?_eq_getElem hi
      have hy:=List.getElem?_eq_getElem (show i<(Gg k n p.length).length by omega)
      unfold Ox
      simp only[Ae,Ai,Ac,Aj]
      rw[Ak zq0,A0,Ca hx,Ag,Ca hy,Ag,Ak (by simp[Ae1];omega),A8,w64 zq0,Ar3,hx,hy]
      rw[A21]
      rfl)
     (by
      unfold Ox
      simp only[Ae,Ai,Ac,Aj]
      rw[Bh zq0,Am])
    rw[Bh zq0,Am,A44 _ _ _ h1 h2 h3,Ag,if_pos ⟨h1,h2,h3⟩]
    simp only
    rw[show Ay Ox (p,[],Gg k n p.length,(0:Int),())=_ from hr]
    rfl
   ·rw[Ak zq0,A0,if_neg zq0]
  ·rw[Ak zq0,A0,if_neg zq0]
 ·rw[Ak zq0,A0,if_neg zq0]
end
end Go.Proofs.YtmhhajdeafijmaaGreat
