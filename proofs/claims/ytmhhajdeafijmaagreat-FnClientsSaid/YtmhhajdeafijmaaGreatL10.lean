/-
  That the program and the reference answer alike, in plain terms, and that the laws answer true.
-/
import Derived.Test.YtmhhajdeafijmaaGreatL9
namespace Go.Proofs.YtmhhajdeafijmaaGreat
open Go.RowKit
set_option linter.unusedVariables false
set_option linter.unusedSimpArgs false
set_option maxHeartbeats 4000000
noncomputable section
theorem Bce (b:List YB) (h:b.length≤1048576):(sha b).length=32:=by
 unfold sha
 rw[if_pos h,Aib,(Aez _ Dv _ (Nat.le_refl _) zq4).2.1];rfl
theorem Ae0 (b:List YB):(sha b).length≤32:=by rcases A3j b with h|h<;>omega
def Al8 (k:List YB):List YB:=k++List.replicate (64-k.length) ((0:Int),())
def Dw (k:List YB):List YB:=Al8 (if k.length>64 then sha k else k)
theorem Anc (k:List YB) (h:k.length≤64):A1 En (k,())=some (Al8 k,()):=by
 have hr:=Cv (B:=En) (64-k.length) (fun i=>(k++List.replicate i ((0:Int),()),())) (Al8 k,())
  (fun i hi=>by
   unfold En
   simp only[Aj,Aq,Af]
   rw[Ap zq1,Az,Ap zq1,Bd,List.append_assoc,←List.replicate_succ'])
  (by
   unfold En
   simp only[Aj,Aq,Af]
   rw[Bg zq1,Aw];rfl)
 simpa using hr
theorem A44 (k:List YB) (h:k.length≤64):(Al8 k).length=64:=by unfold Al8;simp;omega
theorem Z9 (k:List YB):(Dw k).length=64:=by
 unfold Dw
 refine A44 _ ?_
 split
 ·have:=Ae0 k;omega
 ·omega
theorem A45 (k:List YB) (h:k.length≤1048576):X9 (k,())=some (Dw k,()):=by
 unfold X9 X8 Dw
 simp only[Aj,Al,Af]
 rw[Bg zq0,Aw,C4 _ zq2,An]
 by_cases h1:k.length>64
 ·have:=Ae0 k
  rw[Ap zq0,Az,A43 _ zq0,An,Anc _ zq0,if_pos h1];rfl
 ·rw[Bg zq0,Aw,Anc _ zq0,if_neg h1];rfl
theorem A46 (k:List YB) (h:k.length≤1048576):Xf (k,())=some (Dw k,()):=by
 unfold Xf Xe Dw
 simp only[Aj,Al,Af,Aq,List.nil_append,List.length_nil,Nat.zero_add]
 rw[Bg zq0,Aw,Ap zq0,Bd,show Lm=En from rfl]
 by_cases h1:k.length>64
 ·have:=Ae0 k
  rw[Ap zq0,Az,A42,An,Anc _ zq0,if_pos h1];rfl
 ·rw[Bg zq0,Aw,Anc _ zq0,if_neg h1];rfl
def Aqi (x c:Int):YB:=(IntKind.u8.wrap ((BitVec.ofInt (IntKind.u8.bits) x ^^^ BitVec.ofInt (IntKind.u8.bits) c).toNat:Nat),())
def Dj (k:List YB) (c:Int):List YB:=k.map fun x=>Aqi x.1 c
theorem Ah4 (k:List YB) (c:Int):(Dj k c).length=k.length:=by simp[Dj]
theorem Adl (k:List YB) (x:YB) (c:Int):Dj (k++[x]) c=Dj k c++[Aqi x.1 c]:=by simp[Dj]
theorem Azm (k:List YB) (c:Int) (h:k.length≤1048576):Wl (k,()) (c,())=some (Dj k c,()):=by
 have hr:=Cv (B:=Ip) k.length (fun i=>(c,Dj (k.take i) c,k,(k.length:Int),(i:Int),())) (Dj k c,())
  (fun i hi=>by
   have hx:=List.getElem?_eq_getElem hi
   unfold Ip
   simp only[Aj,Al,Af,Aq,O9 hi,Az,Di hx,An]
   rw[Ap zq6,Bd,w64 zq0,←Gk hx,Adl]
   rfl)
  (by unfold Ip;simp only[Aj,Af,Pa,Aw,List.take_length])
 unfold Wl Ag2
 simp only[Al,Af]
 rw[show A1 Ip (c,[],k,(k.length:Int),(0:Int),())=_ from hr]
 rfl
theorem Ba9 (m k:List YB) (h:k.length=64):A1 Ln (m,k,[],[],(0:Int),())=some (m,Dj k 54,Dj k 92,()):=by
 have hr:=Cv (B:=Ln) 64 (fun i=>(m,k,Dj (k.take i) 54,Dj (k.take i) 92,(i:Int),())) (m,Dj k 54,Dj k 92,())
  (fun i hi=>by
   have hx:=List.getElem?_eq_getElem (show i<k.length by omega)
   unfold Ln
   simp only[Aj,Al,Af,Aq]
   rw[Ap zq0,Az,Di hx]
   simp only[An]
   rw[Ap zq6,Bd,Ap zq6,Bd,w64 zq0,←Gk hx,Adl,Adl]
   rfl)
  (by unfold Ln;simp only[Aj,Af,Al,Aq];rw[Bg zq0,Aw,←h,List.take_length])
 exact hr
def Fj (k m:List YB):List YB:=if k.length>1048576 then []else if m.length>1048512 then []else sha (Dj (Dw k) 92++sha (Dj (Dw k) 54++m))
theorem Al9 (k m:List YB):Qg (k,()) (m,())=some (Fj k m,()):=by
 have hb:=Z9 k
 unfold Qg Apy Fj
 simp only[Aj,Al,Af]
 by_cases h1:k.length>1048576
 ·rw[Ap zq0,Az,if_pos h1]
 rw[Bg zq0,Aw,if_neg h1]
 by_cases h2:m.length>1048512
 ·rw[Ap zq0,Az,if_pos h2]
 have hs:=Ae0 (Dj (Dw k) 54++m)
 rw[Bg zq0,Aw,if_neg h2,A45 _ zq0,An,Azm _ _ zq0,An,Azm _ _ zq0,An,H8 _ (by simp[cat,Ah4];omega) zq3,An,
  show cat [(Dj (Dw k) 54,()),(m,())]=Dj (Dw k) 54++m by simp[cat],A43 _ zq6,An,H8 _ (by simp[cat,Ah4];omega) zq3,An,
  show cat [(Dj (Dw k) 92,()),(sha (Dj (Dw k) 54++m),())]=Dj (Dw k) 92++sha (Dj (Dw k) 54++m) by simp[cat],A43 _ zq6,An]
theorem Ama (k m:List YB):Qb (k,()) (m,())=some (Fj k m,()):=by
 have hb:=Z9 k
 unfold Qb Apn Fj
 simp only[Aj,Al,Af,Aq]
 by_cases h1:k.length>1048576
 ·rw[Ap zq0,Az,if_pos h1]
 rw[Bg zq0,Aw,if_neg h1]
 by_cases h2:m.length>1048512
 ·rw[Ap zq0,Az,if_pos h2]
 have hs:=Ae0 (Dj (Dw k) 54++m)
 rw[Bg zq0,Aw,if_neg h2,A46 _ zq0,An,Ba9 _ _ hb,An]
 simp only
 rw[Ap zq6,Bd,A42,An,Ap zq6,Bd,A42,An]
theorem Aic (k m:List YB):(Fj k m).length=32∨(Fj k m).length=0:=by
 unfold Fj
 split
 ·exact .inr rfl
 split
 ·exact .inr rfl
 exact A3j _
theorem Qu (k m:List YB) (h1:k.length≤1048576) (h2:m.length≤1048512):(Fj k m).length=32:=by
 have hb:=Z9 k
 have hs:=Ae0 (Dj (Dw k) 54++m)
 unfold Fj
 rw[if_neg zq0,if_neg zq0]
 exact Bce _ zq6
def Pe (k m:List YB):List YB:=(Fj k m).take 16
theorem A47 (k m:List YB):Ad3 (k,()) (m,())=some (Pe k m,()):=by
 unfold Ad3 At7 Pe
 simp only[Aj,Al,Af,Aq,Al9,An]
 rcases Aic k m with h|h
 ·rw[Cp (by simp[h]),Ap zq0,Bd]
  simp only[show(16:Int).toNat=16 from rfl,show(0:Int).toNat=0 from rfl,List.drop_zero]
  rw[C4 _ zq1,An]
 ·rw[D6 (by simp[h]),List.eq_nil_of_length_eq_zero h];rfl
theorem A48 (k m:List YB):Ad0 (k,()) (m,())=some (Pe k m,()):=by
 unfold Ad0 Atz Pe
 simp only[Aj,Al,Af,Aq,Ama,An,List.nil_append,List.length_nil,Nat.zero_add]
 rcases Aic k m with h|h
 ·rw[Bg zq0,Aw,Ap zq0,Bd]
  simp only[show(16:Int).toNat=16 from rfl,show(0:Int).toNat=0 from rfl,List.drop_zero]
  rw[Ap zq1,Bd]
 ·rw[Ap zq0,Az,List.eq_nil_of_length_eq_zero h];rfl
theorem A3k (k m:List YB):(Pe k m).length≤16:=by unfold Pe;simp;omega
def Np (k n:List YB) (i:Int):List YB:=if inR i 0 6=true∧n.length≤100 then Fj k ((((115:Int),())::n)++Fb i 4 4)else []
theorem A7f (k n:List YB) (i:Int):Acx (k,()) (n,()) (i,())=some (Np k n i,()):=by
 unfold Acx Acw Np
 simp only[Aj,Al,Af,Ch,An]
 cases hi:inR i 0 6 with
 |false=>simp[br]
 |true=>
  simp only[Bool.not_true,Aw]
  by_cases hn:n.length≤100
  ·rw[Bg zq0,Aw,H8 _ (by simp[cat];omega) zq3,An,show cat [([((115:Int),())],()),(n,())]=((115:Int),())::n by simp[cat],Anb _ _ zq1,An,Al9,An,if_pos ⟨trivial,hn⟩]
  ·rw[Ap zq0,Az,if_neg (fun h=>hn h.2)]
theorem A7g (k n:List YB) (i:Int):Acd (k,()) (n,()) (i,())=some (Np k n i,()):=by
 unfold Acd Acc Np
 simp only[Aj,Al,Af,Aq,Cz,An]
 cases hi:inR i 0 6 with
 |false=>simp[br]
 |true=>
  simp only[Bool.not_true,Aw]
  by_cases hn:n.length≤100
  ·rw[Bg zq0,Aw,Ap zq1,Bd,Qr _ _ zq1,An,Ama,An,if_pos ⟨trivial,hn⟩];rfl
  ·rw[Ap zq0,Az,if_neg (fun h=>hn h.2)]
theorem Aid (k n:List YB) (i:Int) (h0:0≤i) (h1:i≤6) (hn:n.length≤100) (hk:k.length≤1048576):(Np k n i).length=32:=by
 unfold Np
 rw[if_pos ⟨Bt.2 ⟨h0,h1⟩,hn⟩]
 exact Qu _ _ hk (by simp[F7];omega)
def blocks (k n:List YB) (i:Nat):List YB:=(List.range i).flatMap fun(j:Nat)=>Np k n (j:Int)
theorem Adm (k n:List YB) (i:Nat):blocks k n (i+1)=blocks k n i++Np k n (i:Int):=by unfold blocks;rw[List.range_succ,List.flatMap_append];simp
theorem Pf (k n:List YB) (i:Nat) (h:i≤7) (hn:n.length≤100) (hk:k.length≤1048576):(blocks k n i).length=32*i:=by
 induction i with
 |zero=>rfl
 |succ i ih=>rw[Adm,List.length_append,ih zq0,Aid _ _ _ zq0 zq0 hn hk];omega
def F0 (k n:List YB) (m:Nat):List YB:=(blocks k n ((m+31)/32)).take m
theorem As2 (k n:List YB) (m:Nat) (hm:m≤200) (hn:n.length≤100) (hk:k.length≤1048576):(F0 k n m).length=m:=by
 unfold F0
 rw[List.length_take,Pf _ _ _ zq0 hn hk];omega
theorem A9m (k n:List YB) (m:Nat) (hm:m≤200) (hn:n.length≤100) (hk:k.length≤1048576):Ahe (k,()) (n,()) ((m:Int),())=some (F0 k n m,()):=by
 have hbl:=Pf k n ((m+31)/32) zq0 hn hk
 have hr:=Cv (B:=Is) ((m+31)/32) (fun i=>(k,n,(m:Int),blocks k n i,(i:Int),())) ((m:Int),blocks k n ((m+31)/32),())
  (fun i hi=>by
   have hl:=Pf k n i zq0 hn hk
   have hl2:=Aid k n (i:Int) zq0 zq0 hn hk
   unfold Is
   simp only[Aj,Al,Af,Aq]
   rw[Ap zq0,Az,A7f,An,Ap zq2,Bd,w64 zq0,Adm]
   rfl)
  (by
   unfold Is
   simp only[Aj,Al,Af,Aq]
   rw[Bg zq0,Aw])
 unfold Ahe Ahd
 simp only[Aj,Al,Af,Aq,Ch,An]
 rw[Cp zq5,Bg zq0,Aw,Bg zq0,Aw,show A1 Is (k,n,(m:Int),[],(0:Int),())=_ from hr,An]
 simp only[Int.toNat_natCast,show(0:Int).toNat=0 from rfl,List.drop_zero]
 rw[Ap zq0,Bd,Ap zq0,Bd,C4 _ zq1,An]
 rfl
theorem A9n (k n:List YB) (m:Nat) (hm:m≤200) (hn:n.length≤100) (hk:k.length≤1048576):Afy (k,()) (n,()) ((m:Int),())=some (F0 k n m,()):=by
 have hbl:=Pf k n ((m+31)/32) zq0 hn hk
 have hr:=Cv (B:=Ii) ((m+31)/32) (fun i=>(k,n,(m:Int),blocks k n i,(i:Int),())) ((m:Int),blocks k n ((m+31)/32),())
  (fun i hi=>by
   have hl:=Pf k n i zq0 hn hk
   have hl2:=Aid k n (i:Int) zq0 zq0 hn hk
   unfold Ii
   simp only[Aj,Al,Af,Aq]
   rw[Ap zq0,Az,A7g,An,Ap zq2,Bd,w64 zq0,Adm]
   rfl)
  (by
   unfold Ii
   simp only[Aj,Al,Af,Aq]
   rw[Bg zq0,Aw])
 unfold Afy Afx
 simp only[Aj,Al,Af,Aq,Cz,An]
 rw[Cp zq5,Bg zq0,Aw,Bg zq0,Aw,show A1 Ii (k,n,(m:Int),[],(0:Int),())=_ from hr,An]
 simp only[Int.toNat_natCast,show(0:Int).toNat=0 from rfl,List.drop_zero,List.nil_append,List.length_nil,Nat.zero_add]
 rw[Ap zq0,Bd,Ap zq0,Bd,Ap zq1,Bd]
 rfl
def Aaa (st p:List YB) (i:Nat):List YB:=(List.range i).map fun j=>Aqi (st[j]?.getD (0,())).1 (p[j]?.getD (0,())).1
theorem Awb (st p:List YB) (i:Nat):Aaa st p (i+1)=Aaa st p i++[Aqi (st[i]?.getD (0,())).1 (p[i]?.getD (0,())).1]:=by unfold Aaa;rw[List.range_succ,List.map_append];rfl
theorem Aie (st p:List YB) (i:Nat):(Aaa st p i).length=i:=by simp[Aaa]
def mix (k n p:List YB):List YB:=if p.length≤200∧n.length≤100∧k.length≤1048576 then Aaa (F0 k n p.length) p p.length else []
theorem Amb (k n p:List YB):(mix k n p).length≤p.length:=by
 unfold mix
 split
 ·rw[Aie];exact Nat.le_refl _
 ·simp
theorem Ba0 (k n p:List YB):Am8 (k,()) (n,()) (p,())=some (mix k n p,()):=by
 unfold Am8 At8 mix
 simp only[Aj,Al,Af]
 by_cases h1:p.length≤200
 ·rw[Bg zq0,Aw]
  by_cases h2:n.length≤100
  ·rw[Bg zq0,Aw]
   by_cases h3:k.length≤1048576
   ·have hs:=As2 k n p.length h1 h2 h3
    have hr:=Cv (B:=Nl) p.length (fun i=>(p,Aaa (F0 k n p.length) p i,F0 k n p.length,((F0 k n p.length).length:Int),(i:Int),())) (Aaa (F0 k n p.length) p p.length,())
     (fun i hi=>by
      have hx:=List.getElem?_eq_getElem hi
      have hy:=List.getElem?_eq_getElem (show i<(F0 k n p.length).length by omega)
      unfold Nl
      simp only[Aj,Al,Af,Aq]
      rw[Ap zq0,Az,Di hy,An,Di hx,An,Ap (by simp[Aie];omega),Bd,w64 zq0,Awb,hx,hy]
      rfl)
     (by
      unfold Nl
      simp only[Aj,Al,Af,Aq]
      rw[Bg zq0,Aw])
    rw[Bg zq0,Aw,A9m _ _ _ h1 h2 h3,An,if_pos ⟨h1,h2,h3⟩]
    simp only
    rw[show A1 Nl (p,[],F0 k n p.length,((F0 k n p.length).length:Int),(0:Int),())=_ from hr]
    rfl
   ·rw[Ap zq0,Az,if_neg zq0]
  ·rw[Ap zq0,Az,if_neg zq0]
 ·rw[Ap zq0,Az,if_neg zq0]
theorem A7h (a b:Int):Aqi a b=Aqi b a:=by unfold Aqi;rw[BitVec.xor_comm]
theorem Ba1 (k n p:List YB):Am7 (k,()) (n,()) (p,())=some (mix k n p,()):=by
 unfold Am7 At0 mix
 simp only[Aj,Al,Af]
 by_cases h1:p.length≤200
 ·rw[Bg zq0,Aw]
  by_cases h2:n.length≤100
  ·rw[Bg zq0,Aw]
   by_cases h3:k.length≤1048576
   ·have hs:=As2 k n p.length h1 h2 h3
    have hr:=Cv (B:=Nk) p.length (fun i=>(p,Aaa (F0 k n p.length) p i,F0 k n p.length,(i:Int),())) (Aaa (F0 k n p.length) p p.length,())
     (fun i hi=>by
      have hx:=List.getElem?_eq_getElem hi
      have hy:=List.getElem?_eq_getElem (show i<(F0 k n p.length).length by omega)
      unfold Nk
      simp only[Aj,Al,Af,Aq]
      rw[Ap zq0,Az,Di hx,An,Di hy,An,Ap (by simp[Aie];omega),Bd,w64 zq0,Awb,hx,hy]
      rw[A7h]
      rfl)
     (by
      unfold Nk
      simp only[Aj,Al,Af,Aq]
      rw[Bg zq0,Aw])
    rw[Bg zq0,Aw,A9n _ _ _ h1 h2 h3,An,if_pos ⟨h1,h2,h3⟩]
    simp only
    rw[show A1 Nk (p,[],F0 k n p.length,(0:Int),())=_ from hr]
    rfl
   ·rw[Ap zq0,Az,if_neg zq0]
  ·rw[Ap zq0,Az,if_neg zq0]
 ·rw[Ap zq0,Az,if_neg zq0]
end
end Go.Proofs.YtmhhajdeafijmaaGreat
