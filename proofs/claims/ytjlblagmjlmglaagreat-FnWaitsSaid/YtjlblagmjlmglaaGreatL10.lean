/-
  That the program and the reference answer alike, in plain terms, and that the laws answer true.
-/
import Derived.Test.YtjlblagmjlmglaaGreatL9
namespace Go.Proofs.YtjlblagmjlmglaaGreat
open Go.RowKit
set_option linter.unusedVariables false
set_option linter.unusedSimpArgs false
set_option maxHeartbeats 4000000
noncomputable section
theorem Bcc (b:List YB) (h:b.length≤1048576):(sha b).length=32:=by
 unfold sha
 rw[if_pos h,Aht,(Aeu _ D4 _ (Nat.le_refl _) zq4).2.1];rfl
theorem Aev (b:List YB):(sha b).length≤32:=by rcases A28 b with h|h<;>omega
def Alq (k:List YB):List YB:=k++List.replicate (64-k.length) ((0:Int),())
def D5 (k:List YB):List YB:=Alq (if k.length>64 then sha k else k)
theorem Amv (k:List YB) (h:k.length≤64):Az Eu (k,())=some (Alq k,()):=by
 have hr:=C5 (B:=Eu) (64-k.length) (fun i=>(k++List.replicate i ((0:Int),()),())) (Alq k,())
  (fun i hi=>by
   unfold Eu
   simp only[Ai,Ap,Ad]
   rw[Ao zq1,Ax,Ao zq1,A8,List.append_assoc,←List.replicate_succ'])
  (by
   unfold Eu
   simp only[Ai,Ap,Ad]
   rw[Bb zq1,Aq];rfl)
 simpa using hr
theorem A4w (k:List YB) (h:k.length≤64):(Alq k).length=64:=by unfold Alq;simp;omega
theorem Z5 (k:List YB):(D5 k).length=64:=by
 unfold D5
 refine A4w _ ?_
 split
 ·have:=Aev k;omega
 ·omega
theorem A4x (k:List YB) (h:k.length≤1048576):Zr (k,())=some (D5 k,()):=by
 unfold Zr X3 D5
 simp only[Ai,Aj,Ad]
 rw[Bb zq0,Aq,Cg _ zq2,Al]
 by_cases h1:k.length>64
 ·have:=Aev k
  rw[Ao zq0,Ax,A4v _ zq0,Al,Amv _ zq0,if_pos h1];rfl
 ·rw[Bb zq0,Aq,Amv _ zq0,if_neg h1];rfl
theorem A4y (k:List YB) (h:k.length≤1048576):X8 (k,())=some (D5 k,()):=by
 unfold X8 Xg D5
 simp only[Ai,Aj,Ad,Ap,List.nil_append,List.length_nil,Nat.zero_add]
 rw[Bb zq0,Aq,Ao zq0,A8,show Lv=Eu from rfl]
 by_cases h1:k.length>64
 ·have:=Aev k
  rw[Ao zq0,Ax,A4u,Al,Amv _ zq0,if_pos h1];rfl
 ·rw[Bb zq0,Aq,Amv _ zq0,if_neg h1];rfl
def Ap2 (x c:Int):YB:=(IntKind.u8.wrap ((BitVec.ofInt (IntKind.u8.bits) x ^^^ BitVec.ofInt (IntKind.u8.bits) c).toNat:Nat),())
def Dj (k:List YB) (c:Int):List YB:=k.map fun x=>Ap2 x.1 c
theorem Ahm (k:List YB) (c:Int):(Dj k c).length=k.length:=by simp[Dj]
theorem Ac9 (k:List YB) (x:YB) (c:Int):Dj (k++[x]) c=Dj k c++[Ap2 x.1 c]:=by simp[Dj]
theorem Azf (k:List YB) (c:Int) (h:k.length≤1048576):Ws (k,()) (c,())=some (Dj k c,()):=by
 have hr:=C5 (B:=It) k.length (fun i=>(c,Dj (k.take i) c,k,(k.length:Int),(i:Int),())) (Dj k c,())
  (fun i hi=>by
   have hx:=List.getElem?_eq_getElem hi
   unfold It
   simp only[Ai,Aj,Ad,Ap,Zw hi,Ax,Dz hx,Al]
   rw[Ao zq6,A8,w64 zq0,←Gs hx,Ac9]
   rfl)
  (by unfold It;simp only[Ai,Ad,Zx,Aq,List.take_length])
 unfold Ws Agw
 simp only[Aj,Ad]
 rw[show Az It (c,[],k,(k.length:Int),(0:Int),())=_ from hr]
 rfl
theorem Ba5 (m k:List YB) (h:k.length=64):Az Lw (m,k,[],[],(0:Int),())=some (m,Dj k 54,Dj k 92,()):=by
 have hr:=C5 (B:=Lw) 64 (fun i=>(m,k,Dj (k.take i) 54,Dj (k.take i) 92,(i:Int),())) (m,Dj k 54,Dj k 92,())
  (fun i hi=>by
   have hx:=List.getElem?_eq_getElem (show i<k.length by omega)
   unfold Lw
   simp only[Ai,Aj,Ad,Ap]
   rw[Ao zq0,Ax,Dz hx]
   simp only[Al]
   rw[Ao zq6,A8,Ao zq6,A8,w64 zq0,←Gs hx,Ac9,Ac9]
   rfl)
  (by unfold Lw;simp only[Ai,Ad,Aj,Ap];rw[Bb zq0,Aq,←h,List.take_length])
 exact hr
def Fq (k m:List YB):List YB:=if k.length>1048576 then []else if m.length>1048512 then []else sha (Dj (D5 k) 92++sha (Dj (D5 k) 54++m))
theorem Alr (k m:List YB):Qj (k,()) (m,())=some (Fq k m,()):=by
 have hb:=Z5 k
 unfold Qj App Fq
 simp only[Ai,Aj,Ad]
 by_cases h1:k.length>1048576
 ·rw[Ao zq0,Ax,if_pos h1]
 rw[Bb zq0,Aq,if_neg h1]
 by_cases h2:m.length>1048512
 ·rw[Ao zq0,Ax,if_pos h2]
 have hs:=Aev (Dj (D5 k) 54++m)
 rw[Bb zq0,Aq,if_neg h2,A4x _ zq0,Al,Azf _ _ zq0,Al,Azf _ _ zq0,Al,Ie _ (by simp[cat,Ahm];omega) zq3,Al,
  show cat [(Dj (D5 k) 54,()),(m,())]=Dj (D5 k) 54++m by simp[cat],A4v _ zq6,Al,Ie _ (by simp[cat,Ahm];omega) zq3,Al,
  show cat [(Dj (D5 k) 92,()),(sha (Dj (D5 k) 54++m),())]=Dj (D5 k) 92++sha (Dj (D5 k) 54++m) by simp[cat],A4v _ zq6,Al]
theorem Als (k m:List YB):Qg (k,()) (m,())=some (Fq k m,()):=by
 have hb:=Z5 k
 unfold Qg Ao8 Fq
 simp only[Ai,Aj,Ad,Ap]
 by_cases h1:k.length>1048576
 ·rw[Ao zq0,Ax,if_pos h1]
 rw[Bb zq0,Aq,if_neg h1]
 by_cases h2:m.length>1048512
 ·rw[Ao zq0,Ax,if_pos h2]
 have hs:=Aev (Dj (D5 k) 54++m)
 rw[Bb zq0,Aq,if_neg h2,A4y _ zq0,Al,Ba5 _ _ hb,Al]
 simp only
 rw[Ao zq6,A8,A4u,Al,Ao zq6,A8,A4u,Al]
theorem Ahu (k m:List YB):(Fq k m).length=32∨(Fq k m).length=0:=by
 unfold Fq
 split
 ·exact .inr rfl
 split
 ·exact .inr rfl
 exact A28 _
theorem Qt (k m:List YB) (h1:k.length≤1048576) (h2:m.length≤1048512):(Fq k m).length=32:=by
 have hb:=Z5 k
 have hs:=Aev (Dj (D5 k) 54++m)
 unfold Fq
 rw[if_neg zq0,if_neg zq0]
 exact Bcc _ zq6
def Pb (k m:List YB):List YB:=(Fq k m).take 16
theorem A4z (k m:List YB):Aem (k,()) (m,())=some (Pb k m,()):=by
 unfold Aem At4 Pb
 simp only[Ai,Aj,Ad,Ap,Alr,Al]
 rcases Ahu k m with h|h
 ·rw[Co (by simp[h]),Ao zq0,A8]
  simp only[show(16:Int).toNat=16 from rfl,show(0:Int).toNat=0 from rfl,List.drop_zero]
  rw[Cg _ zq1,Al]
 ·rw[Ec (by simp[h]),List.eq_nil_of_length_eq_zero h];rfl
theorem A40 (k m:List YB):Aek (k,()) (m,())=some (Pb k m,()):=by
 unfold Aek Atq Pb
 simp only[Ai,Aj,Ad,Ap,Als,Al,List.nil_append,List.length_nil,Nat.zero_add]
 rcases Ahu k m with h|h
 ·rw[Bb zq0,Aq,Ao zq0,A8]
  simp only[show(16:Int).toNat=16 from rfl,show(0:Int).toNat=0 from rfl,List.drop_zero]
  rw[Ao zq1,A8]
 ·rw[Ao zq0,Ax,List.eq_nil_of_length_eq_zero h];rfl
theorem A29 (k m:List YB):(Pb k m).length≤16:=by unfold Pb;simp;omega
def Nu (k n:List YB) (i:Int):List YB:=if inR i 0 6=true∧n.length≤100 then Fq k ((((115:Int),())::n)++Fg i 4 4)else []
theorem A69 (k n:List YB) (i:Int):Ac1 (k,()) (n,()) (i,())=some (Nu k n i,()):=by
 unfold Ac1 Acp Nu
 simp only[Ai,Aj,Ad,B6,Al]
 cases hi:inR i 0 6 with
 |false=>simp[br]
 |true=>
  simp only[Bool.not_true,Aq]
  by_cases hn:n.length≤100
  ·rw[Bb zq0,Aq,Ie _ (by simp[cat];omega) zq3,Al,show cat [([((115:Int),())],()),(n,())]=((115:Int),())::n by simp[cat],Amu _ _ zq1,Al,Alr,Al,if_pos ⟨trivial,hn⟩]
  ·rw[Ao zq0,Ax,if_neg (fun h=>hn h.2)]
theorem A7a (k n:List YB) (i:Int):Acw (k,()) (n,()) (i,())=some (Nu k n i,()):=by
 unfold Acw Ab8 Nu
 simp only[Ai,Aj,Ad,Ap,Bv,Al]
 cases hi:inR i 0 6 with
 |false=>simp[br]
 |true=>
  simp only[Bool.not_true,Aq]
  by_cases hn:n.length≤100
  ·rw[Bb zq0,Aq,Ao zq1,A8,Qq _ _ zq1,Al,Als,Al,if_pos ⟨trivial,hn⟩];rfl
  ·rw[Ao zq0,Ax,if_neg (fun h=>hn h.2)]
theorem Ahv (k n:List YB) (i:Int) (h0:0≤i) (h1:i≤6) (hn:n.length≤100) (hk:k.length≤1048576):(Nu k n i).length=32:=by
 unfold Nu
 rw[if_pos ⟨Bf.2 ⟨h0,h1⟩,hn⟩]
 exact Qt _ _ hk (by simp[Gf];omega)
def blocks (k n:List YB) (i:Nat):List YB:=(List.range i).flatMap fun(j:Nat)=>Nu k n (j:Int)
theorem Ada (k n:List YB) (i:Nat):blocks k n (i+1)=blocks k n i++Nu k n (i:Int):=by unfold blocks;rw[List.range_succ,List.flatMap_append];simp
theorem Pc (k n:List YB) (i:Nat) (h:i≤7) (hn:n.length≤100) (hk:k.length≤1048576):(blocks k n i).length=32*i:=by
 induction i with
 |zero=>rfl
 |succ i ih=>rw[Ada,List.length_append,ih zq0,Ahv _ _ _ zq0 zq0 hn hk];omega
def F0 (k n:List YB) (m:Nat):List YB:=(blocks k n ((m+31)/32)).take m
theorem Asq (k n:List YB) (m:Nat) (hm:m≤200) (hn:n.length≤100) (hk:k.length≤1048576):(F0 k n m).length=m:=by
 unfold F0
 rw[List.length_take,Pc _ _ _ zq0 hn hk];omega
theorem A9j (k n:List YB) (m:Nat) (hm:m≤200) (hn:n.length≤100) (hk:k.length≤1048576):Ahf (k,()) (n,()) ((m:Int),())=some (F0 k n m,()):=by
 have hbl:=Pc k n ((m+31)/32) zq0 hn hk
 have hr:=C5 (B:=Iu) ((m+31)/32) (fun i=>(k,n,(m:Int),blocks k n i,(i:Int),())) ((m:Int),blocks k n ((m+31)/32),())
  (fun i hi=>by
   have hl:=Pc k n i zq0 hn hk
   have hl2:=Ahv k n (i:Int) zq0 zq0 hn hk
   unfold Iu
   simp only[Ai,Aj,Ad,Ap]
   rw[Ao zq0,Ax,A69,Al,Ao zq2,A8,w64 zq0,Ada]
   rfl)
  (by
   unfold Iu
   simp only[Ai,Aj,Ad,Ap]
   rw[Bb zq0,Aq])
 unfold Ahf Agx
 simp only[Ai,Aj,Ad,Ap,B6,Al]
 rw[Co zq5,Bb zq0,Aq,Bb zq0,Aq,show Az Iu (k,n,(m:Int),[],(0:Int),())=_ from hr,Al]
 simp only[Int.toNat_natCast,show(0:Int).toNat=0 from rfl,List.drop_zero]
 rw[Ao zq0,A8,Ao zq0,A8,Cg _ zq1,Al]
 rfl
theorem A9k (k n:List YB) (m:Nat) (hm:m≤200) (hn:n.length≤100) (hk:k.length≤1048576):Ag4 (k,()) (n,()) ((m:Int),())=some (F0 k n m,()):=by
 have hbl:=Pc k n ((m+31)/32) zq0 hn hk
 have hr:=C5 (B:=Im) ((m+31)/32) (fun i=>(k,n,(m:Int),blocks k n i,(i:Int),())) ((m:Int),blocks k n ((m+31)/32),())
  (fun i hi=>by
   have hl:=Pc k n i zq0 hn hk
   have hl2:=Ahv k n (i:Int) zq0 zq0 hn hk
   unfold Im
   simp only[Ai,Aj,Ad,Ap]
   rw[Ao zq0,Ax,A7a,Al,Ao zq2,A8,w64 zq0,Ada]
   rfl)
  (by
   unfold Im
   simp only[Ai,Aj,Ad,Ap]
   rw[Bb zq0,Aq])
 unfold Ag4 Afv
 simp only[Ai,Aj,Ad,Ap,Bv,Al]
 rw[Co zq5,Bb zq0,Aq,Bb zq0,Aq,show Az Im (k,n,(m:Int),[],(0:Int),())=_ from hr,Al]
 simp only[Int.toNat_natCast,show(0:Int).toNat=0 from rfl,List.drop_zero,List.nil_append,List.length_nil,Nat.zero_add]
 rw[Ao zq0,A8,Ao zq0,A8,Ao zq1,A8]
 rfl
def Z6 (st p:List YB) (i:Nat):List YB:=(List.range i).map fun j=>Ap2 (st[j]?.getD (0,())).1 (p[j]?.getD (0,())).1
theorem Av5 (st p:List YB) (i:Nat):Z6 st p (i+1)=Z6 st p i++[Ap2 (st[i]?.getD (0,())).1 (p[i]?.getD (0,())).1]:=by unfold Z6;rw[List.range_succ,List.map_append];rfl
theorem Ahw (st p:List YB) (i:Nat):(Z6 st p i).length=i:=by simp[Z6]
def mix (k n p:List YB):List YB:=if p.length≤200∧n.length≤100∧k.length≤1048576 then Z6 (F0 k n p.length) p p.length else []
theorem Alt (k n p:List YB):(mix k n p).length≤p.length:=by
 unfold mix
 split
 ·rw[Ahw];exact Nat.le_refl _
 ·simp
theorem Baw (k n p:List YB):Amt (k,()) (n,()) (p,())=some (mix k n p,()):=by
 unfold Amt At3 mix
 simp only[Ai,Aj,Ad]
 by_cases h1:p.length≤200
 ·rw[Bb zq0,Aq]
  by_cases h2:n.length≤100
  ·rw[Bb zq0,Aq]
   by_cases h3:k.length≤1048576
   ·have hs:=Asq k n p.length h1 h2 h3
    have hr:=C5 (B:=Nr) p.length (fun i=>(p,Z6 (F0 k n p.length) p i,F0 k n p.length,((F0 k n p.length).length:Int),(i:Int),())) (Z6 (F0 k n p.length) p p.length,())
     (fun i hi=>by
      have hx:=List.getElem?_eq_getElem hi
      have hy:=List.getElem?_eq_getElem (show i<(F0 k n p.length).length by omega)
      unfold Nr
      simp only[Ai,Aj,Ad,Ap]
      rw[Ao zq0,Ax,Dz hy,Al,Dz hx,Al,Ao (by simp[Ahw];omega),A8,w64 zq0,Av5,hx,hy]
      rfl)
     (by
      unfold Nr
      simp only[Ai,Aj,Ad,Ap]
      rw[Bb zq0,Aq])
    rw[Bb zq0,Aq,A9j _ _ _ h1 h2 h3,Al,if_pos ⟨h1,h2,h3⟩]
    simp only
    rw[show Az Nr (p,[],F0 k n p.length,((F0 k n p.length).length:Int),(0:Int),())=_ from hr]
    rfl
   ·rw[Ao zq0,Ax,if_neg zq0]
  ·rw[Ao zq0,Ax,if_neg zq0]
 ·rw[Ao zq0,Ax,if_neg zq0]
theorem A7b (a b:Int):Ap2 a b=Ap2 b a:=by unfold Ap2;rw[BitVec.xor_comm]
theorem Bax (k n p:List YB):Ams (k,()) (n,()) (p,())=some (mix k n p,()):=by
 unfold Ams Ats mix
 simp only[Ai,Aj,Ad]
 by_cases h1:p.length≤200
 ·rw[Bb zq0,Aq]
  by_cases h2:n.length≤100
  ·rw[Bb zq0,Aq]
   by_cases h3:k.length≤1048576
   ·have hs:=Asq k n p.length h1 h2 h3
    have hr:=C5 (B:=Nq) p.length (fun i=>(p,Z6 (F0 k n p.length) p i,F0 k n p.length,(i:Int),())) (Z6 (F0 k n p.length) p p.length,())
     (fun i hi=>by
      have hx:=List.getElem?_eq_getElem hi
      have hy:=List.getElem?_eq_getElem (show i<(F0 k n p.length).length by omega)
      unfold Nq
      simp only[Ai,Aj,Ad,Ap]
      rw[Ao zq0,Ax,Dz hx,Al,Dz hy,Al,Ao (by simp[Ahw];omega),A8,w64 zq0,Av5,hx,hy]
      rw[A7b]
      rfl)
     (by
      unfold Nq
      simp only[Ai,Aj,Ad,Ap]
      rw[Bb zq0,Aq])
    rw[Bb zq0,Aq,A9k _ _ _ h1 h2 h3,Al,if_pos ⟨h1,h2,h3⟩]
    simp only
    rw[show Az Nq (p,[],F0 k n p.length,(0:Int),())=_ from hr]
    rfl
   ·rw[Ao zq0,Ax,if_neg zq0]
  ·rw[Ao zq0,Ax,if_neg zq0]
 ·rw[Ao zq0,Ax,if_neg zq0]
end
end Go.Proofs.YtjlblagmjlmglaaGreat
