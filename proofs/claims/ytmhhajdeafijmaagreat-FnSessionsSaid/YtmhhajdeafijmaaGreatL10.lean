/-
  That the program and the reference answer alike, in plain terms, and that the laws answer true.
-/
import Derived.Test.YtmhhajdeafijmaaGreatL9
namespace Go.Proofs.YtmhhajdeafijmaaGreat
open Go.RowKit
set_option linter.unusedVariables false
set_option linter.unusedSimpArgs false
set_option maxHeartbeats 4000000
noncomputable section
theorem A90 (b:List YB) (h:b.length≤1048576):(sha b).length=32:=by
 unfold sha
 rw[if_pos h,Afy,(Ac3 _ Ej _ (Nat.le_refl _) zq4).2.1];rfl
theorem Ac4 (b:List YB):(sha b).length≤32:=by rcases A1c b with h|h<;>omega
def Ajl (k:List YB):List YB:=k++List.replicate (64-k.length) ((0:Int),())
def Ek (k:List YB):List YB:=Ajl (if k.length>64 then sha k else k)
theorem Akq (k:List YB) (h:k.length≤64):Ay Fc (k,())=some (Ajl k,()):=by
 have hr:=Cp (B:=Fc) (64-k.length) (fun i=>(k++List.replicate i ((0:Int),()),())) (Ajl k,())
  (fun i hi=>by
   unfold Fc
   simp only[Ae,Ak,Ac]
   rw[Am zq1,A0,Am zq1,Ba,List.append_assoc,←List.replicate_succ'])
  (by
   unfold Fc
   simp only[Ae,Ak,Ac]
   rw[Bj zq1,An];rfl)
 simpa using hr
theorem A21 (k:List YB) (h:k.length≤64):(Ajl k).length=64:=by unfold Ajl;simp;omega
theorem Xm (k:List YB):(Ek k).length=64:=by
 unfold Ek
 refine A21 _ ?_
 split
 ·have:=Ac4 k;omega
 ·omega
theorem A22 (k:List YB) (h:k.length≤1048576):Xd (k,())=some (Ek k,()):=by
 unfold Xd Wx Ek
 simp only[Ae,Ai,Ac]
 rw[Bj zq0,An,Cw _ zq2,Ag]
 by_cases h1:k.length>64
 ·have:=Ac4 k
  rw[Am zq0,A0,A20 _ zq0,Ag,Akq _ zq0,if_pos h1];rfl
 ·rw[Bj zq0,An,Akq _ zq0,if_neg h1];rfl
theorem A23 (k:List YB) (h:k.length≤1048576):W4 (k,())=some (Ek k,()):=by
 unfold W4 Wb Ek
 simp only[Ae,Ai,Ac,Ak,List.nil_append,List.length_nil,Nat.zero_add]
 rw[Bj zq0,An,Am zq0,Ba,show M6=Fc from rfl]
 by_cases h1:k.length>64
 ·have:=Ac4 k
  rw[Am zq0,A0,A2z,Ag,Akq _ zq0,if_pos h1];rfl
 ·rw[Bj zq0,An,Akq _ zq0,if_neg h1];rfl
def Anr (x c:Int):YB:=(IntKind.u8.wrap ((BitVec.ofInt (IntKind.u8.bits) x ^^^ BitVec.ofInt (IntKind.u8.bits) c).toNat:Nat),())
def D8 (k:List YB) (c:Int):List YB:=k.map fun x=>Anr x.1 c
theorem Afr (k:List YB) (c:Int):(D8 k c).length=k.length:=by simp[D8]
theorem Abp (k:List YB) (x:YB) (c:Int):D8 (k++[x]) c=D8 k c++[Anr x.1 c]:=by simp[D8]
theorem Axb (k:List YB) (c:Int) (h:k.length≤1048576):Vm (k,()) (c,())=some (D8 k c,()):=by
 have hr:=Cp (B:=Ju) k.length (fun i=>(c,D8 (k.take i) c,k,(k.length:Int),(i:Int),())) (D8 k c,())
  (fun i hi=>by
   have hx:=List.getElem?_eq_getElem hi
   unfold Ju
   simp only[Ae,Ai,Ac,Ak,Et hi,A0,Cb hx,Ag]
   rw[Am zq5,Ba,w64 zq0,←Fe hx,Abp]
   rfl)
  (by unfold Ju;simp only[Ae,Ac,Eu,An,List.take_length])
 unfold Vm Aew
 simp only[Ai,Ac]
 rw[show Ay Ju (c,[],k,(k.length:Int),(0:Int),())=_ from hr]
 rfl
theorem A8x (m k:List YB) (h:k.length=64):Ay M7 (m,k,[],[],(0:Int),())=some (m,D8 k 54,D8 k 92,()):=by
 have hr:=Cp (B:=M7) 64 (fun i=>(m,k,D8 (k.take i) 54,D8 (k.take i) 92,(i:Int),())) (m,D8 k 54,D8 k 92,())
  (fun i hi=>by
   have hx:=List.getElem?_eq_getElem (show i<k.length by omega)
   unfold M7
   simp only[Ae,Ai,Ac,Ak]
   rw[Am zq0,A0,Cb hx]
   simp only[Ag]
   rw[Am zq5,Ba,Am zq5,Ba,w64 zq0,←Fe hx,Abp,Abp]
   rfl)
  (by unfold M7;simp only[Ae,Ac,Ai,Ak];rw[Bj zq0,An,←h,List.take_length])
 exact hr
def F6 (k m:List YB):List YB:=if k.length>1048576 then []else if m.length>1048512 then []else sha (D8 (Ek k) 92++sha (D8 (Ek k) 54++m))
theorem Aqe (k m:List YB):Si (k,()) (m,())=some (F6 k m,()):=by
 have hb:=Xm k
 unfold Si Am9 F6
 simp only[Ae,Ai,Ac]
 by_cases h1:k.length>1048576
 ·rw[Am zq0,A0,if_pos h1]
 rw[Bj zq0,An,if_neg h1]
 by_cases h2:m.length>1048512
 ·rw[Am zq0,A0,if_pos h2]
 have hs:=Ac4 (D8 (Ek k) 54++m)
 rw[Bj zq0,An,if_neg h2,A22 _ zq0,Ag,Axb _ _ zq0,Ag,Axb _ _ zq0,Ag,Ks _ (by simp[cat,Afr];omega) zq3,Ag,
  show cat [(D8 (Ek k) 54,()),(m,())]=D8 (Ek k) 54++m by simp[cat],A20 _ zq5,Ag,Ks _ (by simp[cat,Afr];omega) zq3,Ag,
  show cat [(D8 (Ek k) 92,()),(sha (D8 (Ek k) 54++m),())]=D8 (Ek k) 92++sha (D8 (Ek k) 54++m) by simp[cat],A20 _ zq5,Ag]
theorem Ajm (k m:List YB):Sd (k,()) (m,())=some (F6 k m,()):=by
 have hb:=Xm k
 unfold Sd Am1 F6
 simp only[Ae,Ai,Ac,Ak]
 by_cases h1:k.length>1048576
 ·rw[Am zq0,A0,if_pos h1]
 rw[Bj zq0,An,if_neg h1]
 by_cases h2:m.length>1048512
 ·rw[Am zq0,A0,if_pos h2]
 have hs:=Ac4 (D8 (Ek k) 54++m)
 rw[Bj zq0,An,if_neg h2,A23 _ zq0,Ag,A8x _ _ hb,Ag]
 simp only
 rw[Am zq5,Ba,A2z,Ag,Am zq5,Ba,A2z,Ag]
theorem Afz (k m:List YB):(F6 k m).length=32∨(F6 k m).length=0:=by
 unfold F6
 split
 ·exact .inr rfl
 split
 ·exact .inr rfl
 exact A1c _
theorem Vy (k m:List YB) (h1:k.length≤1048576) (h2:m.length≤1048512):(F6 k m).length=32:=by
 have hb:=Xm k
 have hs:=Ac4 (D8 (Ek k) 54++m)
 unfold F6
 rw[if_neg zq0,if_neg zq0]
 exact A90 _ zq5
def Ri (k m:List YB):List YB:=(F6 k m).take 16
theorem A24 (k m:List YB):Acr (k,()) (m,())=some (Ri k m,()):=by
 unfold Acr Ar4 Ri
 simp only[Ae,Ai,Ac,Ak,Aqe,Ag]
 rcases Afz k m with h|h
 ·rw[C7 (by simp[h]),Am zq0,Ba]
  simp only[show(16:Int).toNat=16 from rfl,show(0:Int).toNat=0 from rfl,List.drop_zero]
  rw[Cw _ zq1,Ag]
 ·rw[Fh (by simp[h]),List.eq_nil_of_length_eq_zero h];rfl
theorem A25 (k m:List YB):Acp (k,()) (m,())=some (Ri k m,()):=by
 unfold Acp Aro Ri
 simp only[Ae,Ai,Ac,Ak,Ajm,Ag,List.nil_append,List.length_nil,Nat.zero_add]
 rcases Afz k m with h|h
 ·rw[Bj zq0,An,Am zq0,Ba]
  simp only[show(16:Int).toNat=16 from rfl,show(0:Int).toNat=0 from rfl,List.drop_zero]
  rw[Am zq1,Ba]
 ·rw[Am zq0,A0,List.eq_nil_of_length_eq_zero h];rfl
theorem A1d (k m:List YB):(Ri k m).length≤16:=by unfold Ri;simp;omega
def Pn (k n:List YB) (i:Int):List YB:=if inR i 0 6=true∧n.length≤100 then F6 k ((((115:Int),())::n)++Fw i 4 4)else []
theorem A45 (k n:List YB) (i:Int):Abi (k,()) (n,()) (i,())=some (Pn k n i,()):=by
 unfold Abi Aa7 Pn
 simp only[Ae,Ai,Ac,Cj,Ag]
 cases hi:inR i 0 6 with
 |false=>simp[br]
 |true=>
  simp only[Bool.not_true,An]
  by_cases hn:n.length≤100
  ·rw[Bj zq0,An,Ks _ (by simp[cat];omega) zq3,Ag,show cat [([((115:Int),())],()),(n,())]=((115:Int),())::n by simp[cat],Ac2 _ _ zq1,Ag,Aqe,Ag,if_pos ⟨trivial,hn⟩]
  ·rw[Am zq0,A0,if_neg (fun h=>hn h.2)]
theorem A46 (k n:List YB) (i:Int):Abe (k,()) (n,()) (i,())=some (Pn k n i,()):=by
 unfold Abe Aax Pn
 simp only[Ae,Ai,Ac,Ak,Cz,Ag]
 cases hi:inR i 0 6 with
 |false=>simp[br]
 |true=>
  simp only[Bool.not_true,An]
  by_cases hn:n.length≤100
  ·rw[Bj zq0,An,Am zq1,Ba,Ss _ _ zq1,Ag,Ajm,Ag,if_pos ⟨trivial,hn⟩];rfl
  ·rw[Am zq0,A0,if_neg (fun h=>hn h.2)]
theorem Af0 (k n:List YB) (i:Int) (h0:0≤i) (h1:i≤6) (hn:n.length≤100) (hk:k.length≤1048576):(Pn k n i).length=32:=by
 unfold Pn
 rw[if_pos ⟨Bp.2 ⟨h0,h1⟩,hn⟩]
 exact Vy _ _ hk (by simp[G6];omega)
def blocks (k n:List YB) (i:Nat):List YB:=(List.range i).flatMap fun(j:Nat)=>Pn k n (j:Int)
theorem Abq (k n:List YB) (i:Nat):blocks k n (i+1)=blocks k n i++Pn k n (i:Int):=by unfold blocks;rw[List.range_succ,List.flatMap_append];simp
theorem Rj (k n:List YB) (i:Nat) (h:i≤7) (hn:n.length≤100) (hk:k.length≤1048576):(blocks k n i).length=32*i:=by
 induction i with
 |zero=>rfl
 |succ i ih=>rw[Abq,List.length_append,ih zq0,Af0 _ _ _ zq0 zq0 hn hk];omega
def Gk (k n:List YB) (m:Nat):List YB:=(blocks k n ((m+31)/32)).take m
theorem Aqf (k n:List YB) (m:Nat) (hm:m≤200) (hn:n.length≤100) (hk:k.length≤1048576):(Gk k n m).length=m:=by
 unfold Gk
 rw[List.length_take,Rj _ _ _ zq0 hn hk];omega
theorem A69 (k n:List YB) (m:Nat) (hm:m≤200) (hn:n.length≤100) (hk:k.length≤1048576):Afj (k,()) (n,()) ((m:Int),())=some (Gk k n m,()):=by
 have hbl:=Rj k n ((m+31)/32) zq0 hn hk
 have hr:=Cp (B:=Jv) ((m+31)/32) (fun i=>(k,n,(m:Int),blocks k n i,(i:Int),())) ((m:Int),blocks k n ((m+31)/32),())
  (fun i hi=>by
   have hl:=Rj k n i zq0 hn hk
   have hl2:=Af0 k n (i:Int) zq0 zq0 hn hk
   unfold Jv
   simp only[Ae,Ai,Ac,Ak]
   rw[Am zq0,A0,A45,Ag,Am zq2,Ba,w64 zq0,Abq]
   rfl)
  (by
   unfold Jv
   simp only[Ae,Ai,Ac,Ak]
   rw[Bj zq0,An])
 unfold Afj Aey
 simp only[Ae,Ai,Ac,Ak,Cj,Ag]
 rw[C7 (by simp[inR];omega),Bj zq0,An,Bj zq0,An,show Ay Jv (k,n,(m:Int),[],(0:Int),())=_ from hr,Ag]
 simp only[Int.toNat_natCast,show(0:Int).toNat=0 from rfl,List.drop_zero]
 rw[Am zq0,Ba,Am zq0,Ba,Cw _ zq1,Ag]
 rfl
theorem A7a (k n:List YB) (m:Nat) (hm:m≤200) (hn:n.length≤100) (hk:k.length≤1048576):Afe (k,()) (n,()) ((m:Int),())=some (Gk k n m,()):=by
 have hbl:=Rj k n ((m+31)/32) zq0 hn hk
 have hr:=Cp (B:=Jm) ((m+31)/32) (fun i=>(k,n,(m:Int),blocks k n i,(i:Int),())) ((m:Int),blocks k n ((m+31)/32),())
  (fun i hi=>by
   have hl:=Rj k n i zq0 hn hk
   have hl2:=Af0 k n (i:Int) zq0 zq0 hn hk
   unfold Jm
   simp only[Ae,Ai,Ac,Ak]
   rw[Am zq0,A0,A46,Ag,Am zq2,Ba,w64 zq0,Abq]
   rfl)
  (by
   unfold Jm
   simp only[Ae,Ai,Ac,Ak]
   rw[Bj zq0,An])
 unfold Afe Ad6
 simp only[Ae,Ai,Ac,Ak,Cz,Ag]
 rw[C7 (by simp[inR];omega),Bj zq0,An,Bj zq0,An,show Ay Jm (k,n,(m:Int),[],(0:Int),())=_ from hr,Ag]
 simp only[Int.toNat_natCast,show(0:Int).toNat=0 from rfl,List.drop_zero,List.nil_append,List.length_nil,Nat.zero_add]
 rw[Am zq0,Ba,Am zq0,Ba,Am zq1,Ba]
 rfl
def Xn (st p:List YB) (i:Nat):List YB:=(List.range i).map fun j=>Anr (st[j]?.getD (0,())).1 (p[j]?.getD (0,())).1
theorem At2 (st p:List YB) (i:Nat):Xn st p (i+1)=Xn st p i++[Anr (st[i]?.getD (0,())).1 (p[i]?.getD (0,())).1]:=by unfold Xn;rw[List.range_succ,List.map_append];rfl
theorem Af1 (st p:List YB) (i:Nat):(Xn st p i).length=i:=by simp[Xn]
def mix (k n p:List YB):List YB:=if p.length≤200∧n.length≤100∧k.length≤1048576 then Xn (Gk k n p.length) p p.length else []
theorem Ajn (k n p:List YB):(mix k n p).length≤p.length:=by
 unfold mix
 split
 ·rw[Af1];exact Nat.le_refl _
 ·simp
theorem A8l (k n p:List YB):Akm (k,()) (n,()) (p,())=some (mix k n p,()):=by
 unfold Akm Ar6 mix
 simp only[Ae,Ai,Ac]
 by_cases h1:p.length≤200
 ·rw[Bj zq0,An]
  by_cases h2:n.length≤100
  ·rw[Bj zq0,An]
   by_cases h3:k.length≤1048576
   ·have hs:=Aqf k n p.length h1 h2 h3
    have hr:=Cp (B:=Pk) p.length (fun i=>(p,Xn (Gk k n p.length) p i,Gk k n p.length,((Gk k n p.length).length:Int),(i:Int),())) (Xn (Gk k n p.length) p p.length,())
     (fun i hi=>by
      have hx:=List.getElem?_eq_getElem hi
      have hy:=List.getElem?_eq_getElem (show i<(Gk k n p.length).length by omega)
      unfold Pk
      simp only[Ae,Ai,Ac,Ak]
      rw[Am zq0,A0,Cb hy,Ag,Cb hx,Ag,Am (by simp[Af1];omega),Ba,w64 zq0,At2,hx,hy]
      rfl)
     (by
      unfold Pk
      simp only[Ae,Ai,Ac,Ak]
      rw[Bj zq0,An])
    rw[Bj zq0,An,A69 _ _ _ h1 h2 h3,Ag,if_pos ⟨h1,h2,h3⟩]
    simp only
    rw[show Ay Pk (p,[],Gk k n p.length,((Gk k n p.length).length:Int),(0:Int),())=_ from hr]
    rfl
   ·rw[Am zq0,A0,if_neg zq0]
  ·rw[Am zq0,A0,if_neg zq0]
 ·rw[Am zq0,A0,if_neg zq0]
theorem A47 (a b:Int):Anr a b=Anr b a:=by unfold Anr;rw[BitVec.xor_comm]
theorem A8m (k n p:List YB):Akl (k,()) (n,()) (p,())=some (mix k n p,()):=by
 unfold Akl Arq mix
 simp only[Ae,Ai,Ac]
 by_cases h1:p.length≤200
 ·rw[Bj zq0,An]
  by_cases h2:n.length≤100
  ·rw[Bj zq0,An]
   by_cases h3:k.length≤1048576
   ·have hs:=Aqf k n p.length h1 h2 h3
    have hr:=Cp (B:=Pj) p.length (fun i=>(p,Xn (Gk k n p.length) p i,Gk k n p.length,(i:Int),())) (Xn (Gk k n p.length) p p.length,())
     (fun i hi=>by
      have hx:=List.getElem?_eq_getElem hi
      have hy:=List.getElem?_eq_getElem (show i<(Gk k n p.length).length by omega)
      unfold Pj
      simp only[Ae,Ai,Ac,Ak]
      rw[Am zq0,A0,Cb hx,Ag,Cb hy,Ag,Am (by simp[Af1];omega),Ba,w64 zq0,At2,hx,hy]
      rw[A47]
      rfl)
     (by
      unfold Pj
      simp only[Ae,Ai,Ac,Ak]
      rw[Bj zq0,An])
    rw[Bj zq0,An,A7a _ _ _ h1 h2 h3,Ag,if_pos ⟨h1,h2,h3⟩]
    simp only
    rw[show Ay Pj (p,[],Gk k n p.length,(0:Int),())=_ from hr]
    rfl
   ·rw[Am zq0,A0,if_neg zq0]
  ·rw[Am zq0,A0,if_neg zq0]
 ·rw[Am zq0,A0,if_neg zq0]
end
end Go.Proofs.YtmhhajdeafijmaaGreat
