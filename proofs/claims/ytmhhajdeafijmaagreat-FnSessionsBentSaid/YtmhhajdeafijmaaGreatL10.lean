/-
  That the program and the reference answer alike, in plain terms, and that the laws answer true.
-/
import Derived.Test.YtmhhajdeafijmaaGreatL9
namespace Go.Proofs.YtmhhajdeafijmaaGreat
open Go.RowKit
set_option linter.unusedVariables false
set_option linter.unusedSimpArgs false
set_option maxHeartbeats 4000000
noncomputable section
theorem A90 (b:List YB) (h:b.length≤1048576):(sha b).length=32:=by
 unfold sha
 rw[if_pos h,Afu,(Acg _ D9 _ (Nat.le_refl _) zq3).2.1];rfl
theorem Ach (b:List YB):(sha b).length≤32:=by rcases A1d b with h|h<;>omega
def Aju (k:List YB):List YB:=k++List.replicate (64-k.length) ((0:Int),())
def Ea (k:List YB):List YB:=Aju (if k.length>64 then sha k else k)
theorem Ak2 (k:List YB) (h:k.length≤64):Ay Eu (k,())=some (Aju k,()):=by
 have hr:=Cj (B:=Eu) (64-k.length) (fun i=>(k++List.replicate i ((0:Int),()),())) (Aju k,())
  (fun i hi=>by
   unfold Eu
   simp only[Af,An,Ac]
   rw[Al zq1,Az,Al zq1,A5,List.append_assoc,←List.replicate_succ'])
  (by
   unfold Eu
   simp only[Af,An,Ac]
   rw[Bi zq1,Ap];rfl)
 simpa using hr
theorem A2t (k:List YB) (h:k.length≤64):(Aju k).length=64:=by unfold Aju;simp;omega
theorem W3 (k:List YB):(Ea k).length=64:=by
 unfold Ea
 refine A2t _ ?_
 split
 ·have:=Ach k;omega
 ·omega
theorem A2u (k:List YB) (h:k.length≤1048576):V5 (k,())=some (Ea k,()):=by
 unfold V5 V4 Ea
 simp only[Af,Ah,Ac]
 rw[Bi zq0,Ap,Dc _ zq2,Ai]
 by_cases h1:k.length>64
 ·have:=Ach k
  rw[Al zq0,Az,A2s _ zq0,Ai,Ak2 _ zq0,if_pos h1];rfl
 ·rw[Bi zq0,Ap,Ak2 _ zq0,if_neg h1];rfl
theorem A2v (k:List YB) (h:k.length≤1048576):Vi (k,())=some (Ea k,()):=by
 unfold Vi Vh Ea
 simp only[Af,Ah,Ac,An,List.nil_append,List.length_nil,Nat.zero_add]
 rw[Bi zq0,Ap,Al zq0,A5,show Mc=Eu from rfl]
 by_cases h1:k.length>64
 ·have:=Ach k
  rw[Al zq0,Az,A2r,Ai,Ak2 _ zq0,if_pos h1];rfl
 ·rw[Bi zq0,Ap,Ak2 _ zq0,if_neg h1];rfl
def An1 (x c:Int):YB:=(IntKind.u8.wrap ((BitVec.ofInt (IntKind.u8.bits) x ^^^ BitVec.ofInt (IntKind.u8.bits) c).toNat:Nat),())
def Du (k:List YB) (c:Int):List YB:=k.map fun x=>An1 x.1 c
theorem Afm (k:List YB) (c:Int):(Du k c).length=k.length:=by simp[Du]
theorem Aa6 (k:List YB) (x:YB) (c:Int):Du (k++[x]) c=Du k c++[An1 x.1 c]:=by simp[Du]
theorem Axd (k:List YB) (c:Int) (h:k.length≤1048576):Un (k,()) (c,())=some (Du k c,()):=by
 have hr:=Cj (B:=Jb) k.length (fun i=>(c,Du (k.take i) c,k,(k.length:Int),(i:Int),())) (Du k c,())
  (fun i hi=>by
   have hx:=List.getElem?_eq_getElem hi
   unfold Jb
   simp only[Af,Ah,Ac,An,En hi,Az,Ce hx,Ai]
   rw[Al zq4,A5,w64 zq0,←Ey hx,Aa6]
   rfl)
  (by unfold Jb;simp only[Af,Ac,Eo,Ap,List.take_length])
 unfold Un Aei
 simp only[Ah,Ac]
 rw[show Ay Jb (c,[],k,(k.length:Int),(0:Int),())=_ from hr]
 rfl
theorem A8v (m k:List YB) (h:k.length=64):Ay Md (m,k,[],[],(0:Int),())=some (m,Du k 54,Du k 92,()):=by
 have hr:=Cj (B:=Md) 64 (fun i=>(m,k,Du (k.take i) 54,Du (k.take i) 92,(i:Int),())) (m,Du k 54,Du k 92,())
  (fun i hi=>by
   have hx:=List.getElem?_eq_getElem (show i<k.length by omega)
   unfold Md
   simp only[Af,Ah,Ac,An]
   rw[Al zq0,Az,Ce hx]
   simp only[Ai]
   rw[Al zq4,A5,Al zq4,A5,w64 zq0,←Ey hx,Aa6,Aa6]
   rfl)
  (by unfold Md;simp only[Af,Ac,Ah,An];rw[Bi zq0,Ap,←h,List.take_length])
 exact hr
def F7 (k m:List YB):List YB:=if k.length>1048576 then []else if m.length>1048512 then []else sha (Du (Ea k) 92++sha (Du (Ea k) 54++m))
theorem Axe (k m:List YB):V6 (k,()) (m,())=some (F7 k m,()):=by
 have hb:=W3 k
 unfold V6 Am8 F7
 simp only[Af,Ah,Ac]
 by_cases h1:k.length>1048576
 ·rw[Al zq0,Az,if_pos h1]
 rw[Bi zq0,Ap,if_neg h1]
 by_cases h2:m.length>1048512
 ·rw[Al zq0,Az,if_pos h2]
 have hs:=Ach (Du (Ea k) 54++m)
 rw[Bi zq0,Ap,if_neg h2,A2u _ zq0,Ai,Axd _ _ zq0,Ai,Axd _ _ zq0,Ai,Lw _ (by simp[cat,Afm];omega) (by simp),Ai,
  show cat [(Du (Ea k) 54,()),(m,())]=Du (Ea k) 54++m by simp[cat],A2s _ zq4,Ai,Lw _ (by simp[cat,Afm];omega) (by simp),Ai,
  show cat [(Du (Ea k) 92,()),(sha (Du (Ea k) 54++m),())]=Du (Ea k) 92++sha (Du (Ea k) 54++m) by simp[cat],A2s _ zq4,Ai]
theorem Ajv (k m:List YB):Q9 (k,()) (m,())=some (F7 k m,()):=by
 have hb:=W3 k
 unfold Q9 Amz F7
 simp only[Af,Ah,Ac,An]
 by_cases h1:k.length>1048576
 ·rw[Al zq0,Az,if_pos h1]
 rw[Bi zq0,Ap,if_neg h1]
 by_cases h2:m.length>1048512
 ·rw[Al zq0,Az,if_pos h2]
 have hs:=Ach (Du (Ea k) 54++m)
 rw[Bi zq0,Ap,if_neg h2,A2v _ zq0,Ai,A8v _ _ hb,Ai]
 simp only
 rw[Al zq4,A5,A2r,Ai,Al zq4,A5,A2r,Ai]
theorem An2 (k m:List YB):(F7 k m).length=32∨(F7 k m).length=0:=by
 unfold F7
 split
 ·exact .inr rfl
 split
 ·exact .inr rfl
 exact A1d _
theorem Ak3 (k m:List YB) (h1:k.length≤1048576) (h2:m.length≤1048512):(F7 k m).length=32:=by
 have hb:=W3 k
 have hs:=Ach (Du (Ea k) 54++m)
 unfold F7
 rw[if_neg zq0,if_neg zq0]
 exact A90 _ zq4
def W4 (k m:List YB):List YB:=(F7 k m).take 16
theorem A8j (k m:List YB):Akv (k,()) (m,())=some (W4 k m,()):=by
 unfold Akv Ars W4
 simp only[Af,Ah,Ac,An,Axe,Ai]
 rcases An2 k m with h|h
 ·rw[Dv (by simp[h]),Al zq0,A5]
  simp only[show(16:Int).toNat=16 from rfl,show(0:Int).toNat=0 from rfl,List.drop_zero]
  rw[Dc _ zq1,Ai]
 ·rw[F3 (by simp[h]),List.eq_nil_of_length_eq_zero h];rfl
theorem A2w (k m:List YB):Abp (k,()) (m,())=some (W4 k m,()):=by
 unfold Abp Ark W4
 simp only[Af,Ah,Ac,An,Ajv,Ai,List.nil_append,List.length_nil,Nat.zero_add]
 rcases An2 k m with h|h
 ·rw[Bi zq0,Ap,Al zq0,A5]
  simp only[show(16:Int).toNat=16 from rfl,show(0:Int).toNat=0 from rfl,List.drop_zero]
  rw[Al zq1,A5]
 ·rw[Al zq0,Az,List.eq_nil_of_length_eq_zero h];rfl
theorem A1e (k m:List YB):(W4 k m).length≤16:=by unfold W4;simp;omega
def Ou (k n:List YB) (i:Int):List YB:=if inR i 0 6=true∧n.length≤100 then F7 k ((((115:Int),())::n)++Fi i 4 4)else []
theorem A43 (k n:List YB) (i:Int):Aah (k,()) (n,()) (i,())=some (Ou k n i,()):=by
 unfold Aah Aag Ou
 simp only[Af,Ah,Ac,C9,Ai]
 cases hi:inR i 0 6 with
 |false=>simp[br]
 |true=>
  simp only[Bool.not_true,Ap]
  by_cases hn:n.length≤100
  ·rw[Bi zq0,Ap,Lw _ (by simp[cat];omega) (by simp),Ai,show cat [([((115:Int),())],()),(n,())]=((115:Int),())::n by simp[cat],Ak0 _ _ zq1,Ai,Axe,Ai,if_pos ⟨trivial,hn⟩]
  ·rw[Al zq0,Az,if_neg (fun h=>hn h.2)]
theorem A44 (k n:List YB) (i:Int):Z7 (k,()) (n,()) (i,())=some (Ou k n i,()):=by
 unfold Z7 Z6 Ou
 simp only[Af,Ah,Ac,An,C4,Ai]
 cases hi:inR i 0 6 with
 |false=>simp[br]
 |true=>
  simp only[Bool.not_true,Ap]
  by_cases hn:n.length≤100
  ·rw[Bi zq0,Ap,Al zq1,A5,Rn _ _ zq1,Ai,Ajv,Ai,if_pos ⟨trivial,hn⟩];rfl
  ·rw[Al zq0,Az,if_neg (fun h=>hn h.2)]
theorem Afv (k n:List YB) (i:Int) (h0:0≤i) (h1:i≤6) (hn:n.length≤100) (hk:k.length≤1048576):(Ou k n i).length=32:=by
 unfold Ou
 rw[if_pos ⟨C6.2 ⟨h0,h1⟩,hn⟩]
 exact Ak3 _ _ hk (by simp[Ix];omega)
def blocks (k n:List YB) (i:Nat):List YB:=(List.range i).flatMap fun(j:Nat)=>Ou k n (j:Int)
theorem Aa7 (k n:List YB) (i:Nat):blocks k n (i+1)=blocks k n i++Ou k n (i:Int):=by unfold blocks;rw[List.range_succ,List.flatMap_append];simp
theorem Qn (k n:List YB) (i:Nat) (h:i≤7) (hn:n.length≤100) (hk:k.length≤1048576):(blocks k n i).length=32*i:=by
 induction i with
 |zero=>rfl
 |succ i ih=>rw[Aa7,List.length_append,ih zq0,Afv _ _ _ zq0 zq0 hn hk];omega
def F8 (k n:List YB) (m:Nat):List YB:=(blocks k n ((m+31)/32)).take m
theorem Aqk (k n:List YB) (m:Nat) (hm:m≤200) (hn:n.length≤100) (hk:k.length≤1048576):(F8 k n m).length=m:=by
 unfold F8
 rw[List.length_take,Qn _ _ _ zq0 hn hk];omega
theorem A69 (k n:List YB) (m:Nat) (hm:m≤200) (hn:n.length≤100) (hk:k.length≤1048576):Aek (k,()) (n,()) ((m:Int),())=some (F8 k n m,()):=by
 have hbl:=Qn k n ((m+31)/32) zq0 hn hk
 have hr:=Cj (B:=Jc) ((m+31)/32) (fun i=>(k,n,(m:Int),blocks k n i,(i:Int),())) ((m:Int),blocks k n ((m+31)/32),())
  (fun i hi=>by
   have hl:=Qn k n i zq0 hn hk
   have hl2:=Afv k n (i:Int) zq0 zq0 hn hk
   unfold Jc
   simp only[Af,Ah,Ac,An]
   rw[Al zq0,Az,A43,Ai,Al zq2,A5,w64 zq0,Aa7]
   rfl)
  (by
   unfold Jc
   simp only[Af,Ah,Ac,An]
   rw[Bi zq0,Ap])
 unfold Aek Aej
 simp only[Af,Ah,Ac,An,C9,Ai]
 rw[Dv (by simp[inR];omega),Bi zq0,Ap,Bi zq0,Ap,show Ay Jc (k,n,(m:Int),[],(0:Int),())=_ from hr,Ai]
 simp only[Int.toNat_natCast,show(0:Int).toNat=0 from rfl,List.drop_zero]
 rw[Al zq0,A5,Al zq0,A5,Dc _ zq1,Ai]
 rfl
theorem A7a (k n:List YB) (m:Nat) (hm:m≤200) (hn:n.length≤100) (hk:k.length≤1048576):Adv (k,()) (n,()) ((m:Int),())=some (F8 k n m,()):=by
 have hbl:=Qn k n ((m+31)/32) zq0 hn hk
 have hr:=Cj (B:=I6) ((m+31)/32) (fun i=>(k,n,(m:Int),blocks k n i,(i:Int),())) ((m:Int),blocks k n ((m+31)/32),())
  (fun i hi=>by
   have hl:=Qn k n i zq0 hn hk
   have hl2:=Afv k n (i:Int) zq0 zq0 hn hk
   unfold I6
   simp only[Af,Ah,Ac,An]
   rw[Al zq0,Az,A44,Ai,Al zq2,A5,w64 zq0,Aa7]
   rfl)
  (by
   unfold I6
   simp only[Af,Ah,Ac,An]
   rw[Bi zq0,Ap])
 unfold Adv Adu
 simp only[Af,Ah,Ac,An,C4,Ai]
 rw[Dv (by simp[inR];omega),Bi zq0,Ap,Bi zq0,Ap,show Ay I6 (k,n,(m:Int),[],(0:Int),())=_ from hr,Ai]
 simp only[Int.toNat_natCast,show(0:Int).toNat=0 from rfl,List.drop_zero,List.nil_append,List.length_nil,Nat.zero_add]
 rw[Al zq0,A5,Al zq0,A5,Al zq1,A5]
 rfl
def W5 (st p:List YB) (i:Nat):List YB:=(List.range i).map fun j=>An1 (st[j]?.getD (0,())).1 (p[j]?.getD (0,())).1
theorem At3 (st p:List YB) (i:Nat):W5 st p (i+1)=W5 st p i++[An1 (st[i]?.getD (0,())).1 (p[i]?.getD (0,())).1]:=by unfold W5;rw[List.range_succ,List.map_append];rfl
theorem Afw (st p:List YB) (i:Nat):(W5 st p i).length=i:=by simp[W5]
def mix (k n p:List YB):List YB:=if p.length≤200∧n.length≤100∧k.length≤1048576 then W5 (F8 k n p.length) p p.length else []
theorem Ajw (k n p:List YB):(mix k n p).length≤p.length:=by
 unfold mix
 split
 ·rw[Afw];exact Nat.le_refl _
 ·simp
theorem A8k (k n p:List YB):Akw (k,()) (n,()) (p,())=some (mix k n p,()):=by
 unfold Akw Art mix
 simp only[Af,Ah,Ac]
 by_cases h1:p.length≤200
 ·rw[Bi zq0,Ap]
  by_cases h2:n.length≤100
  ·rw[Bi zq0,Ap]
   by_cases h3:k.length≤1048576
   ·have hs:=Aqk k n p.length h1 h2 h3
    have hr:=Cj (B:=Oo) p.length (fun i=>(p,W5 (F8 k n p.length) p i,F8 k n p.length,((F8 k n p.length).length:Int),(i:Int),())) (W5 (F8 k n p.length) p p.length,())
     (fun i hi=>by
      have hx:=List.getElem?_eq_getElem hi
      have hy:=List.getElem?_eq_getElem (show i<(F8 k n p.length).length by omega)
      unfold Oo
      simp only[Af,Ah,Ac,An]
      rw[Al zq0,Az,Ce hy,Ai,Ce hx,Ai,Al (by simp[Afw];omega),A5,w64 zq0,At3,hx,hy]
      rfl)
     (by
      unfold Oo
      simp only[Af,Ah,Ac,An]
      rw[Bi zq0,Ap])
    rw[Bi zq0,Ap,A69 _ _ _ h1 h2 h3,Ai,if_pos ⟨h1,h2,h3⟩]
    simp only
    rw[show Ay Oo (p,[],F8 k n p.length,((F8 k n p.length).length:Int),(0:Int),())=_ from hr]
    rfl
   ·rw[Al zq0,Az,if_neg zq0]
  ·rw[Al zq0,Az,if_neg zq0]
 ·rw[Al zq0,Az,if_neg zq0]
theorem A45 (a b:Int):An1 a b=An1 b a:=by unfold An1;rw[BitVec.xor_comm]
theorem A8l (k n p:List YB):Aku (k,()) (n,()) (p,())=some (mix k n p,()):=by
 unfold Aku Arl mix
 simp only[Af,Ah,Ac]
 by_cases h1:p.length≤200
 ·rw[Bi zq0,Ap]
  by_cases h2:n.length≤100
  ·rw[Bi zq0,Ap]
   by_cases h3:k.length≤1048576
   ·have hs:=Aqk k n p.length h1 h2 h3
    have hr:=Cj (B:=On) p.length (fun i=>(p,W5 (F8 k n p.length) p i,F8 k n p.length,(i:Int),())) (W5 (F8 k n p.length) p p.length,())
     (fun i hi=>by
      have hx:=List.getElem?_eq_getElem hi
      have hy:=List.getElem?_eq_getElem (show i<(F8 k n p.length).length by omega)
      unfold On
      simp only[Af,Ah,Ac,An]
      rw[Al zq0,Az,Ce hx,Ai,Ce hy,Ai,Al (by simp[Afw];omega),A5,w64 zq0,At3,hx,hy]
      rw[A45]
      rfl)
     (by
      unfold On
      simp only[Af,Ah,Ac,An]
      rw[Bi zq0,Ap])
    rw[Bi zq0,Ap,A7a _ _ _ h1 h2 h3,Ai,if_pos ⟨h1,h2,h3⟩]
    simp only
    rw[show Ay On (p,[],F8 k n p.length,(0:Int),())=_ from hr]
    rfl
   ·rw[Al zq0,Az,if_neg zq0]
  ·rw[Al zq0,Az,if_neg zq0]
 ·rw[Al zq0,Az,if_neg zq0]
end
end Go.Proofs.YtmhhajdeafijmaaGreat
