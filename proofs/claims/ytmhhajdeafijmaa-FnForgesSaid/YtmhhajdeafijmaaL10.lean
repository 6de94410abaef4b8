/-
  That the program and the reference answer alike, in plain terms, and that the laws answer true.
-/
import Derived.Test.YtmhhajdeafijmaaL9
namespace Go.Proofs.Ytmhhajdeafijmaa
open Go.RowKit
set_option linter.unusedVariables false
set_option linter.unusedSimpArgs false
set_option maxHeartbeats 4000000
noncomputable section
theorem Akz (b:List YB) (h:b.length≤1048576):(sha b).length=32:=by
 unfold sha
 rw[if_pos h,Pu,(N6 _ Bz _ (Nat.le_refl _) zq4).2.1];rfl
theorem N7 (b:List YB):(sha b).length≤32:=by rcases Aek b with h|h<;>omega
def Rv (k:List YB):List YB:=k++List.replicate (64-k.length) ((0:Int),())
def B0 (k:List YB):List YB:=Rv (if k.length>64 then sha k else k)
theorem Sr (k:List YB) (h:k.length≤64):Al Cj (k,())=some (Rv k,()):=by
 have hr:=By (B:=Cj) (64-k.length) (fun i=>(k++List.replicate i ((0:Int),()),())) (Rv k,())
  (fun i hi=>by
   unfold Cj
   simp only[Ad,Aj,Ac]
   rw[Ah zq3,Ay,Ah zq3,Aw,List.append_assoc,←List.replicate_succ'])
  (by
   unfold Cj
   simp only[Ad,Aj,Ac]
   rw[Aq zq3,Am];rfl)
 simpa using hr
theorem Afu (k:List YB) (h:k.length≤64):(Rv k).length=64:=by unfold Rv;simp;omega
theorem Li (k:List YB):(B0 k).length=64:=by
 unfold B0
 refine Afu _ ?_
 split
 ·have:=N7 k;omega
 ·omega
theorem Afv (k:List YB) (h:k.length≤1048576):Ku (k,())=some (B0 k,()):=by
 unfold Ku Kt B0
 simp only[Ad,Af,Ac]
 rw[Aq zq0,Am,I8 _ zq5,Ae]
 by_cases h1:k.length>64
 ·have:=N7 k
  rw[Ah zq0,Ay,Aft _ zq0,Ae,Sr _ zq0,if_pos h1];rfl
 ·rw[Aq zq0,Am,Sr _ zq0,if_neg h1];rfl
theorem Afw (k:List YB) (h:k.length≤1048576):Ky (k,())=some (B0 k,()):=by
 unfold Ky Kx B0
 simp only[Ad,Af,Ac,Aj,List.nil_append,List.length_nil,Nat.zero_add]
 rw[Aq zq0,Am,Ah zq0,Aw,show Gr=Cj from rfl]
 by_cases h1:k.length>64
 ·have:=N7 k
  rw[Ah zq0,Ay,Afs,Ae,Sr _ zq0,if_pos h1];rfl
 ·rw[Aq zq0,Am,Sr _ zq0,if_neg h1];rfl
def Lj (x c:Int):YB:=(IntKind.u8.wrap ((BitVec.ofInt (IntKind.u8.bits) x ^^^ BitVec.ofInt (IntKind.u8.bits) c).toNat:Nat),())
def Bu (k:List YB) (c:Int):List YB:=k.map fun x=>Lj x.1 c
theorem Po (k:List YB) (c:Int):(Bu k c).length=k.length:=by simp[Bu]
theorem Ng (k:List YB) (x:YB) (c:Int):Bu (k++[x]) c=Bu k c++[Lj x.1 c]:=by simp[Bu]
theorem Aby (k:List YB) (c:Int) (h:k.length≤1048576):Kb (k,()) (c,())=some (Bu k c,()):=by
 have hr:=By (B:=Em) k.length (fun i=>(c,Bu (k.take i) c,k,(k.length:Int),(i:Int),())) (Bu k c,())
  (fun i hi=>by
   have hx:=List.getElem?_eq_getElem hi
   unfold Em
   simp only[Ad,Af,Ac,Aj,Iq hi,Ay,B8 hx,Ae]
   rw[Ah zq6,Aw,w64 zq0,←E4 hx,Ng]
   rfl)
  (by unfold Em;simp only[Ad,Ac,Le,Am,List.take_length])
 unfold Kb Oy
 simp only[Af,Ac]
 rw[show Al Em (c,[],k,(k.length:Int),(0:Int),())=_ from hr]
 rfl
theorem Aj2 (m k:List YB) (h:k.length=64):Al Gs (m,k,[],[],(0:Int),())=some (m,Bu k 54,Bu k 92,()):=by
 have hr:=By (B:=Gs) 64 (fun i=>(m,k,Bu (k.take i) 54,Bu (k.take i) 92,(i:Int),())) (m,Bu k 54,Bu k 92,())
  (fun i hi=>by
   have hx:=List.getElem?_eq_getElem (show i<k.length by omega)
   unfold Gs
   simp only[Ad,Af,Ac,Aj]
   rw[Ah zq0,Ay,B8 hx]
   simp only[Ae]
   rw[Ah zq6,Aw,Ah zq6,Aw,w64 zq0,←E4 hx,Ng,Ng]
   rfl)
  (by unfold Gs;simp only[Ad,Ac,Af,Aj];rw[Aq zq0,Am,←h,List.take_length])
 exact hr
def Lk (k m:List YB):List YB:=if k.length>1048576 then []else if m.length>1048512 then []else sha (Bu (B0 k) 92++sha (Bu (B0 k) 54++m))
theorem Ahk (k m:List YB):I7 (k,()) (m,())=some (Lk k m,()):=by
 have hb:=Li k
 unfold I7 T0 Lk
 simp only[Ad,Af,Ac]
 by_cases h1:k.length>1048576
 ·rw[Ah zq0,Ay,if_pos h1]
 rw[Aq zq0,Am,if_neg h1]
 by_cases h2:m.length>1048512
 ·rw[Ah zq0,Ay,if_pos h2]
 have hs:=N7 (Bu (B0 k) 54++m)
 rw[Aq zq0,Am,if_neg h2,Afv _ zq0,Ae,Aby _ _ zq0,Ae,Aby _ _ zq0,Ae,Da _ (by simp[cat,Po];omega) zq1,Ae,
  show cat [(Bu (B0 k) 54,()),(m,())]=Bu (B0 k) 54++m by simp[cat],Aft _ zq6,Ae,Da _ (by simp[cat,Po];omega) zq1,Ae,
  show cat [(Bu (B0 k) 92,()),(sha (Bu (B0 k) 54++m),())]=Bu (B0 k) 92++sha (Bu (B0 k) 54++m) by simp[cat],Aft _ zq6,Ae]
theorem Ahl (k m:List YB):O7 (k,()) (m,())=some (Lk k m,()):=by
 have hb:=Li k
 unfold O7 T6 Lk
 simp only[Ad,Af,Ac,Aj]
 by_cases h1:k.length>1048576
 ·rw[Ah zq0,Ay,if_pos h1]
 rw[Aq zq0,Am,if_neg h1]
 by_cases h2:m.length>1048512
 ·rw[Ah zq0,Ay,if_pos h2]
 have hs:=N7 (Bu (B0 k) 54++m)
 rw[Aq zq0,Am,if_neg h2,Afw _ zq0,Ae,Aj2 _ _ hb,Ae]
 simp only
 rw[Ah zq6,Aw,Afs,Ae,Ah zq6,Aw,Afs,Ae]
theorem Abz (k m:List YB):(Lk k m).length=32∨(Lk k m).length=0:=by
 unfold Lk
 split
 ·exact .inr rfl
 split
 ·exact .inr rfl
 exact Aek _
theorem Ael (k m:List YB) (h1:k.length≤1048576) (h2:m.length≤1048512):(Lk k m).length=32:=by
 have hb:=Li k
 have hs:=N7 (Bu (B0 k) 54++m)
 unfold Lk
 rw[if_neg zq0,if_neg zq0]
 exact Akz _ zq6
def Fd (k m:List YB):List YB:=(Lk k m).take 16
theorem Afx (k m:List YB):Nr (k,()) (m,())=some (Fd k m,()):=by
 unfold Nr W2 Fd
 simp only[Ad,Af,Ac,Aj,Ahk,Ae]
 rcases Abz k m with h|h
 ·rw[Ki (by simp[h]),Ah zq0,Aw]
  simp only[show(16:Int).toNat=16 from rfl,show(0:Int).toNat=0 from rfl,List.drop_zero]
  rw[I8 _ zq3,Ae]
 ·rw[Sp (by simp[h]),List.eq_nil_of_length_eq_zero h];rfl
theorem Alw (k m:List YB):Xa (k,()) (m,())=some (Fd k m,()):=by
 unfold Xa W9 Fd
 simp only[Ad,Af,Ac,Aj,Ahl,Ae,List.nil_append,List.length_nil,Nat.zero_add]
 rcases Abz k m with h|h
 ·rw[Aq zq0,Am,Ah zq0,Aw]
  simp only[show(16:Int).toNat=16 from rfl,show(0:Int).toNat=0 from rfl,List.drop_zero]
  rw[Ah zq3,Aw]
 ·rw[Ah zq0,Ay,List.eq_nil_of_length_eq_zero h];rfl
theorem Aj3 (k m:List YB):(Fd k m).length≤16:=by unfold Fd;simp;omega
def Hx (k n:List YB) (i:Int):List YB:=if inR i 0 6=true∧n.length≤100 then Lk k ((((115:Int),())::n)++Bm i 4 4)else []
theorem Ahm (k n:List YB) (i:Int):Mu (k,()) (n,()) (i,())=some (Hx k n i,()):=by
 unfold Mu Mt Hx
 simp only[Ad,Af,Ac,Ej,Ae]
 cases hi:inR i 0 6 with
 |false=>simp[br]
 |true=>
  simp only[Bool.not_true,Am]
  by_cases hn:n.length≤100
  ·rw[Aq zq0,Am,Da _ (by simp[cat];omega) zq1,Ae,show cat [([((115:Int),())],()),(n,())]=((115:Int),())::n by simp[cat],I9 _ _ zq3,Ae,Ahk,Ae,if_pos ⟨trivial,hn⟩]
  ·rw[Ah zq0,Ay,if_neg (fun h=>hn h.2)]
theorem Ahn (k n:List YB) (i:Int):My (k,()) (n,()) (i,())=some (Hx k n i,()):=by
 unfold My Mx Hx
 simp only[Ad,Af,Ac,Aj,Lf,Ae]
 cases hi:inR i 0 6 with
 |false=>simp[br]
 |true=>
  simp only[Bool.not_true,Am]
  by_cases hn:n.length≤100
  ·rw[Aq zq0,Am,Ah zq3,Aw,N5 _ _ zq3,Ae,Ahl,Ae,if_pos ⟨trivial,hn⟩];rfl
  ·rw[Ah zq0,Ay,if_neg (fun h=>hn h.2)]
theorem Pv (k n:List YB) (i:Int) (h0:0≤i) (h1:i≤6) (hn:n.length≤100) (hk:k.length≤1048576):(Hx k n i).length=32:=by
 unfold Hx
 rw[if_pos ⟨Ep.2 ⟨h0,h1⟩,hn⟩]
 exact Ael _ _ hk (by simp[Ei];omega)
def blocks (k n:List YB) (i:Nat):List YB:=(List.range i).flatMap fun(j:Nat)=>Hx k n (j:Int)
theorem Nh (k n:List YB) (i:Nat):blocks k n (i+1)=blocks k n i++Hx k n (i:Int):=by unfold blocks;rw[List.range_succ,List.flatMap_append];simp
theorem Is (k n:List YB) (i:Nat) (h:i≤7) (hn:n.length≤100) (hk:k.length≤1048576):(blocks k n i).length=32*i:=by
 induction i with
 |zero=>rfl
 |succ i ih=>rw[Nh,List.length_append,ih zq0,Pv _ _ _ zq0 zq0 hn hk];omega
def B4 (k n:List YB) (m:Nat):List YB:=(blocks k n ((m+31)/32)).take m
theorem Pw (k n:List YB) (m:Nat) (hm:m≤200) (hn:n.length≤100) (hk:k.length≤1048576):(B4 k n m).length=m:=by
 unfold B4
 rw[List.length_take,Is _ _ _ zq0 hn hk];omega
theorem Aiv (k n:List YB) (m:Nat) (hm:m≤200) (hn:n.length≤100) (hk:k.length≤1048576):O0 (k,()) (n,()) ((m:Int),())=some (B4 k n m,()):=by
 have hbl:=Is k n ((m+31)/32) zq0 hn hk
 have hr:=By (B:=En) ((m+31)/32) (fun i=>(k,n,(m:Int),blocks k n i,(i:Int),())) ((m:Int),blocks k n ((m+31)/32),())
  (fun i hi=>by
   have hl:=Is k n i zq0 hn hk
   have hl2:=Pv k n (i:Int) zq0 zq0 hn hk
   unfold En
   simp only[Ad,Af,Ac,Aj]
   rw[Ah zq0,Ay,Ahm,Ae,Ah zq5,Aw,w64 zq0,Nh]
   rfl)
  (by
   unfold En
   simp only[Ad,Af,Ac,Aj]
   rw[Aq zq0,Am])
 unfold O0 Oz
 simp only[Ad,Af,Ac,Aj,Ej,Ae]
 rw[Ki (by simp[inR];omega),Aq zq0,Am,Aq zq0,Am,show Al En (k,n,(m:Int),[],(0:Int),())=_ from hr,Ae]
 simp only[Int.toNat_natCast,show(0:Int).toNat=0 from rfl,List.drop_zero]
 rw[Ah zq0,Aw,Ah zq0,Aw,I8 _ zq3,Ae]
 rfl
theorem Aiw (k n:List YB) (m:Nat) (hm:m≤200) (hn:n.length≤100) (hk:k.length≤1048576):O9 (k,()) (n,()) ((m:Int),())=some (B4 k n m,()):=by
 have hbl:=Is k n ((m+31)/32) zq0 hn hk
 have hr:=By (B:=Eo) ((m+31)/32) (fun i=>(k,n,(m:Int),blocks k n i,(i:Int),())) ((m:Int),blocks k n ((m+31)/32),())
  (fun i hi=>by
   have hl:=Is k n i zq0 hn hk
   have hl2:=Pv k n (i:Int) zq0 zq0 hn hk
   unfold Eo
   simp only[Ad,Af,Ac,Aj]
   rw[Ah zq0,Ay,Ahn,Ae,Ah zq5,Aw,w64 zq0,Nh]
   rfl)
  (by
   unfold Eo
   simp only[Ad,Af,Ac,Aj]
   rw[Aq zq0,Am])
 unfold O9 O8
 simp only[Ad,Af,Ac,Aj,Lf,Ae]
 rw[Ki (by simp[inR];omega),Aq zq0,Am,Aq zq0,Am,show Al Eo (k,n,(m:Int),[],(0:Int),())=_ from hr,Ae]
 simp only[Int.toNat_natCast,show(0:Int).toNat=0 from rfl,List.drop_zero,List.nil_append,List.length_nil,Nat.zero_add]
 rw[Ah zq0,Aw,Ah zq0,Aw,Ah zq3,Aw]
 rfl
def Hm (st p:List YB) (i:Nat):List YB:=(List.range i).map fun j=>Lj (st[j]?.getD (0,())).1 (p[j]?.getD (0,())).1
theorem Zw (st p:List YB) (i:Nat):Hm st p (i+1)=Hm st p i++[Lj (st[i]?.getD (0,())).1 (p[i]?.getD (0,())).1]:=by unfold Hm;rw[List.range_succ,List.map_append];rfl
theorem Ll (st p:List YB) (i:Nat):(Hm st p i).length=i:=by simp[Hm]
def mix (k n p:List YB):List YB:=if p.length≤200∧n.length≤100∧k.length≤1048576 then Hm (B4 k n p.length) p p.length else []
theorem Ab0 (k n p:List YB):(mix k n p).length≤p.length:=by
 unfold mix
 split
 ·rw[Ll];exact Nat.le_refl _
 ·simp
theorem Ajv (k n p:List YB):Nq (k,()) (n,()) (p,())=some (mix k n p,()):=by
 unfold Nq W1 mix
 simp only[Ad,Af,Ac]
 by_cases h1:p.length≤200
 ·rw[Aq zq0,Am]
  by_cases h2:n.length≤100
  ·rw[Aq zq0,Am]
   by_cases h3:k.length≤1048576
   ·have hs:=Pw k n p.length h1 h2 h3
    have hr:=By (B:=Ht) p.length (fun i=>(p,Hm (B4 k n p.length) p i,B4 k n p.length,((B4 k n p.length).length:Int),(i:Int),())) (Hm (B4 k n p.length) p p.length,())
     (fun i hi=>by
      have hx:=List.getElem?_eq_getElem hi
      have hy:=List.getElem?_eq_getElem (show i<(B4 k n p.length).length by omega)
      unfold Ht
      simp only[Ad,Af,Ac,Aj]
      rw[Ah zq0,Ay,B8 hy,Ae,B8 hx,Ae,Ah (by simp[Ll];omega),Aw,w64 zq0,Zw,hx,hy]
      rfl)
     (by
      unfold Ht
      simp only[Ad,Af,Ac,Aj]
      rw[Aq zq0,Am])
    rw[Aq zq0,Am,Aiv _ _ _ h1 h2 h3,Ae,if_pos ⟨h1,h2,h3⟩]
    simp only
    rw[show Al Ht (p,[],B4 k n p.length,((B4 k n p.length).length:Int),(0:Int),())=_ from hr]
    rfl
   ·rw[Ah zq0,Ay,if_neg zq0]
  ·rw[Ah zq0,Ay,if_neg zq0]
 ·rw[Ah zq0,Ay,if_neg zq0]
theorem Aho (a b:Int):Lj a b=Lj b a:=by unfold Lj;rw[BitVec.xor_comm]
theorem Alx (k n p:List YB):W8 (k,()) (n,()) (p,())=some (mix k n p,()):=by
 unfold W8 W7 mix
 simp only[Ad,Af,Ac]
 by_cases h1:p.length≤200
 ·rw[Aq zq0,Am]
  by_cases h2:n.length≤100
  ·rw[Aq zq0,Am]
   by_cases h3:k.length≤1048576
   ·have hs:=Pw k n p.length h1 h2 h3
    have hr:=By (B:=Hv) p.length (fun i=>(p,Hm (B4 k n p.length) p i,B4 k n p.length,(i:Int),())) (Hm (B4 k n p.length) p p.length,())
     (fun i hi=>by
      have hx:=List.getElem?_eq_getElem hi
      have hy:=List.getElem?_eq_getElem (show i<(B4 k n p.length).length by omega)
      unfold Hv
      simp only[Ad,Af,Ac,Aj]
      rw[Ah zq0,Ay,B8 hx,Ae,B8 hy,Ae,Ah (by simp[Ll];omega),Aw,w64 zq0,Zw,hx,hy]
      rw[Aho]
      rfl)
     (by
      unfold Hv
      simp only[Ad,Af,Ac,Aj]
      rw[Aq zq0,Am])
    rw[Aq zq0,Am,Aiw _ _ _ h1 h2 h3,Ae,if_pos ⟨h1,h2,h3⟩]
    simp only
    rw[show Al Hv (p,[],B4 k n p.length,(0:Int),())=_ from hr]
    rfl
   ·rw[Ah zq0,Ay,if_neg zq0]
  ·rw[Ah zq0,Ay,if_neg zq0]
 ·rw[Ah zq0,Ay,if_neg zq0]
end
end Go.Proofs.Ytmhhajdeafijmaa
