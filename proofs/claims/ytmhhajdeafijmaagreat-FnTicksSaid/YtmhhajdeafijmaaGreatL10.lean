/-
  That the program and the reference answer alike, in plain terms, and that the laws answer true.
-/
import Derived.Test.YtmhhajdeafijmaaGreatL9
namespace Go.Proofs.YtmhhajdeafijmaaGreat
open Go.RowKit
set_option linter.unusedVariables false
set_option linter.unusedSimpArgs false
set_option maxHeartbeats 4000000
noncomputable section
theorem Bbw (b:List YB) (h:b.length≤1048576):(sha b).length=32:=by
 unfold sha
 rw[if_pos h,Aib,(Aff _ D4 _ (Nat.le_refl _) zq4).2.1];rfl
theorem Afg (b:List YB):(sha b).length≤32:=by rcases A21 b with h|h<;>omega
def Aly (k:List YB):List YB:=k++List.replicate (64-k.length) ((0:Int),())
def D5 (k:List YB):List YB:=Aly (if k.length>64 then sha k else k)
theorem Am2 (k:List YB) (h:k.length≤64):Ay Ev (k,())=some (Aly k,()):=by
 have hr:=Cq (B:=Ev) (64-k.length) (fun i=>(k++List.replicate i ((0:Int),()),())) (Aly k,())
  (fun i hi=>by
   unfold Ev
   simp only[Ag,Ao,Ad]
   rw[Am zq1,Aw,Am zq1,A5,List.append_assoc,←List.replicate_succ'])
  (by
   unfold Ev
   simp only[Ag,Ao,Ad]
   rw[A8 zq1,An];rfl)
 simpa using hr
theorem A4g (k:List YB) (h:k.length≤64):(Aly k).length=64:=by unfold Aly;simp;omega
theorem Aas (k:List YB):(D5 k).length=64:=by
 unfold D5
 refine A4g _ ?_
 split
 ·have:=Afg k;omega
 ·omega
theorem A4h (k:List YB) (h:k.length≤1048576):Aag (k,())=some (D5 k,()):=by
 unfold Aag Zm D5
 simp only[Ag,Ai,Ad]
 rw[A8 zq0,An,Cd _ zq2,Aj]
 by_cases h1:k.length>64
 ·have:=Afg k
  rw[Am zq0,Aw,A4f _ zq0,Aj,Am2 _ zq0,if_pos h1];rfl
 ·rw[A8 zq0,An,Am2 _ zq0,if_neg h1];rfl
theorem A4i (k:List YB) (h:k.length≤1048576):Zz (k,())=some (D5 k,()):=by
 unfold Zz X4 D5
 simp only[Ag,Ai,Ad,Ao,List.nil_append,List.length_nil,Nat.zero_add]
 rw[A8 zq0,An,Am zq0,A5,show L0=Ev from rfl]
 by_cases h1:k.length>64
 ·have:=Afg k
  rw[Am zq0,Aw,A4e,Aj,Am2 _ zq0,if_pos h1];rfl
 ·rw[A8 zq0,An,Am2 _ zq0,if_neg h1];rfl
def Aat (x c:Int):YB:=(IntKind.u8.wrap ((BitVec.ofInt (IntKind.u8.bits) x ^^^ BitVec.ofInt (IntKind.u8.bits) c).toNat:Nat),())
def Dq (k:List YB) (c:Int):List YB:=k.map fun x=>Aat x.1 c
theorem Ah6 (k:List YB) (c:Int):(Dq k c).length=k.length:=by simp[Dq]
theorem Adw (k:List YB) (x:YB) (c:Int):Dq (k++[x]) c=Dq k c++[Aat x.1 c]:=by simp[Dq]
theorem Ay7 (k:List YB) (c:Int) (h:k.length≤1048576):Xd (k,()) (c,())=some (Dq k c,()):=by
 have hr:=Cq (B:=I6) k.length (fun i=>(c,Dq (k.take i) c,k,(k.length:Int),(i:Int),())) (Dq k c,())
  (fun i hi=>by
   have hx:=List.getElem?_eq_getElem hi
   unfold I6
   simp only[Ag,Ai,Ad,Ao,M6 hi,Aw,Dl hx,Aj]
   rw[Am zq6,A5,w64 zq0,←G8 hx,Adw]
   rfl)
  (by unfold I6;simp only[Ag,Ad,M7,An,List.take_length])
 unfold Xd Ahc
 simp only[Ai,Ad]
 rw[show Ay I6 (c,[],k,(k.length:Int),(0:Int),())=_ from hr]
 rfl
theorem Bal (m k:List YB) (h:k.length=64):Ay L3 (m,k,[],[],(0:Int),())=some (m,Dq k 54,Dq k 92,()):=by
 have hr:=Cq (B:=L3) 64 (fun i=>(m,k,Dq (k.take i) 54,Dq (k.take i) 92,(i:Int),())) (m,Dq k 54,Dq k 92,())
  (fun i hi=>by
   have hx:=List.getElem?_eq_getElem (show i<k.length by omega)
   unfold L3
   simp only[Ag,Ai,Ad,Ao]
   rw[Am zq0,Aw,Dl hx]
   simp only[Aj]
   rw[Am zq6,A5,Am zq6,A5,w64 zq0,←G8 hx,Adw,Adw]
   rfl)
  (by unfold L3;simp only[Ag,Ad,Ai,Ao];rw[A8 zq0,An,←h,List.take_length])
 exact hr
def F0 (k m:List YB):List YB:=if k.length>1048576 then []else if m.length>1048512 then []else sha (Dq (D5 k) 92++sha (Dq (D5 k) 54++m))
theorem Alz (k m:List YB):Q2 (k,()) (m,())=some (F0 k m,()):=by
 have hb:=Aas k
 unfold Q2 Apu F0
 simp only[Ag,Ai,Ad]
 by_cases h1:k.length>1048576
 ·rw[Am zq0,Aw,if_pos h1]
 rw[A8 zq0,An,if_neg h1]
 by_cases h2:m.length>1048512
 ·rw[Am zq0,Aw,if_pos h2]
 have hs:=Afg (Dq (D5 k) 54++m)
 rw[A8 zq0,An,if_neg h2,A4h _ zq0,Aj,Ay7 _ _ zq0,Aj,Ay7 _ _ zq0,Aj,Is _ (by simp[cat,Ah6];omega) zq3,Aj,
  show cat [(Dq (D5 k) 54,()),(m,())]=Dq (D5 k) 54++m by simp[cat],A4f _ zq6,Aj,Is _ (by simp[cat,Ah6];omega) zq3,Aj,
  show cat [(Dq (D5 k) 92,()),(sha (Dq (D5 k) 54++m),())]=Dq (D5 k) 92++sha (Dq (D5 k) 54++m) by simp[cat],A4f _ zq6,Aj]
theorem Al0 (k m:List YB):Qx (k,()) (m,())=some (F0 k m,()):=by
 have hb:=Aas k
 unfold Qx Api F0
 simp only[Ag,Ai,Ad,Ao]
 by_cases h1:k.length>1048576
 ·rw[Am zq0,Aw,if_pos h1]
 rw[A8 zq0,An,if_neg h1]
 by_cases h2:m.length>1048512
 ·rw[Am zq0,Aw,if_pos h2]
 have hs:=Afg (Dq (D5 k) 54++m)
 rw[A8 zq0,An,if_neg h2,A4i _ zq0,Aj,Bal _ _ hb,Aj]
 simp only
 rw[Am zq6,A5,A4e,Aj,Am zq6,A5,A4e,Aj]
theorem Aic (k m:List YB):(F0 k m).length=32∨(F0 k m).length=0:=by
 unfold F0
 split
 ·exact .inr rfl
 split
 ·exact .inr rfl
 exact A21 _
theorem Rg (k m:List YB) (h1:k.length≤1048576) (h2:m.length≤1048512):(F0 k m).length=32:=by
 have hb:=Aas k
 have hs:=Afg (Dq (D5 k) 54++m)
 unfold F0
 rw[if_neg zq0,if_neg zq0]
 exact Bbw _ zq6
def Jw (k m:List YB):List YB:=(F0 k m).take 16
theorem Axn (k m:List YB):Ae9 (k,()) (m,())=some (Jw k m,()):=by
 unfold Ae9 At4 Jw
 simp only[Ag,Ai,Ad,Ao,Alz,Aj]
 rcases Aic k m with h|h
 ·rw[Cp (by simp[h]),Am zq0,A5]
  simp only[show(16:Int).toNat=16 from rfl,show(0:Int).toNat=0 from rfl,List.drop_zero]
  rw[Cd _ zq1,Aj]
 ·rw[Ej (by simp[h]),List.eq_nil_of_length_eq_zero h];rfl
theorem A4j (k m:List YB):Ae7 (k,()) (m,())=some (Jw k m,()):=by
 unfold Ae7 Atq Jw
 simp only[Ag,Ai,Ad,Ao,Al0,Aj,List.nil_append,List.length_nil,Nat.zero_add]
 rcases Aic k m with h|h
 ·rw[A8 zq0,An,Am zq0,A5]
  simp only[show(16:Int).toNat=16 from rfl,show(0:Int).toNat=0 from rfl,List.drop_zero]
  rw[Am zq1,A5]
 ·rw[Am zq0,Aw,List.eq_nil_of_length_eq_zero h];rfl
theorem A22 (k m:List YB):(Jw k m).length≤16:=by unfold Jw;simp;omega
def Oe (k n:List YB) (i:Int):List YB:=if inR i 0 6=true∧n.length≤100 then F0 k ((((115:Int),())::n)++E5 i 4 4)else []
theorem A6q (k n:List YB) (i:Int):Adn (k,()) (n,()) (i,())=some (Oe k n i,()):=by
 unfold Adn Adb Oe
 simp only[Ag,Ai,Ad,Br,Aj]
 cases hi:inR i 0 6 with
 |false=>simp[br]
 |true=>
  simp only[Bool.not_true,An]
  by_cases hn:n.length≤100
  ·rw[A8 zq0,An,Is _ (by simp[cat];omega) zq3,Aj,show cat [([((115:Int),())],()),(n,())]=((115:Int),())::n by simp[cat],Afe _ _ zq1,Aj,Alz,Aj,if_pos ⟨trivial,hn⟩]
  ·rw[Am zq0,Aw,if_neg (fun h=>hn h.2)]
theorem A6r (k n:List YB) (i:Int):Adk (k,()) (n,()) (i,())=some (Oe k n i,()):=by
 unfold Adk Ac0 Oe
 simp only[Ag,Ai,Ad,Ao,Cb,Aj]
 cases hi:inR i 0 6 with
 |false=>simp[br]
 |true=>
  simp only[Bool.not_true,An]
  by_cases hn:n.length≤100
  ·rw[A8 zq0,An,Am zq1,A5,Rc _ _ zq1,Aj,Al0,Aj,if_pos ⟨trivial,hn⟩];rfl
  ·rw[Am zq0,Aw,if_neg (fun h=>hn h.2)]
theorem Aid (k n:List YB) (i:Int) (h0:0≤i) (h1:i≤6) (hn:n.length≤100) (hk:k.length≤1048576):(Oe k n i).length=32:=by
 unfold Oe
 rw[if_pos ⟨A6.2 ⟨h0,h1⟩,hn⟩]
 exact Rg _ _ hk (by simp[Gn];omega)
def blocks (k n:List YB) (i:Nat):List YB:=(List.range i).flatMap fun(j:Nat)=>Oe k n (j:Int)
theorem Adx (k n:List YB) (i:Nat):blocks k n (i+1)=blocks k n i++Oe k n (i:Int):=by unfold blocks;rw[List.range_succ,List.flatMap_append];simp
theorem Pv (k n:List YB) (i:Nat) (h:i≤7) (hn:n.length≤100) (hk:k.length≤1048576):(blocks k n i).length=32*i:=by
 induction i with
 |zero=>rfl
 |succ i ih=>rw[Adx,List.length_append,ih zq0,Aid _ _ _ zq0 zq0 hn hk];omega
def D6 (k n:List YB) (m:Nat):List YB:=(blocks k n ((m+31)/32)).take m
theorem Aie (k n:List YB) (m:Nat) (hm:m≤200) (hn:n.length≤100) (hk:k.length≤1048576):(D6 k n m).length=m:=by
 unfold D6
 rw[List.length_take,Pv _ _ _ zq0 hn hk];omega
theorem A8p (k n:List YB) (m:Nat) (hm:m≤200) (hn:n.length≤100) (hk:k.length≤1048576):Ahv (k,()) (n,()) ((m:Int),())=some (D6 k n m,()):=by
 have hbl:=Pv k n ((m+31)/32) zq0 hn hk
 have hr:=Cq (B:=I7) ((m+31)/32) (fun i=>(k,n,(m:Int),blocks k n i,(i:Int),())) ((m:Int),blocks k n ((m+31)/32),())
  (fun i hi=>by
   have hl:=Pv k n i zq0 hn hk
   have hl2:=Aid k n (i:Int) zq0 zq0 hn hk
   unfold I7
   simp only[Ag,Ai,Ad,Ao]
   rw[Am zq0,Aw,A6q,Aj,Am zq2,A5,w64 zq0,Adx]
   rfl)
  (by
   unfold I7
   simp only[Ag,Ai,Ad,Ao]
   rw[A8 zq0,An])
 unfold Ahv Ahe
 simp only[Ag,Ai,Ad,Ao,Br,Aj]
 rw[Cp zq5,A8 zq0,An,A8 zq0,An,show Ay I7 (k,n,(m:Int),[],(0:Int),())=_ from hr,Aj]
 simp only[Int.toNat_natCast,show(0:Int).toNat=0 from rfl,List.drop_zero]
 rw[Am zq0,A5,Am zq0,A5,Cd _ zq1,Aj]
 rfl
theorem A8q (k n:List YB) (m:Nat) (hm:m≤200) (hn:n.length≤100) (hk:k.length≤1048576):Ahq (k,()) (n,()) ((m:Int),())=some (D6 k n m,()):=by
 have hbl:=Pv k n ((m+31)/32) zq0 hn hk
 have hr:=Cq (B:=I0) ((m+31)/32) (fun i=>(k,n,(m:Int),blocks k n i,(i:Int),())) ((m:Int),blocks k n ((m+31)/32),())
  (fun i hi=>by
   have hl:=Pv k n i zq0 hn hk
   have hl2:=Aid k n (i:Int) zq0 zq0 hn hk
   unfold I0
   simp only[Ag,Ai,Ad,Ao]
   rw[Am zq0,Aw,A6r,Aj,Am zq2,A5,w64 zq0,Adx]
   rfl)
  (by
   unfold I0
   simp only[Ag,Ai,Ad,Ao]
   rw[A8 zq0,An])
 unfold Ahq Agi
 simp only[Ag,Ai,Ad,Ao,Cb,Aj]
 rw[Cp zq5,A8 zq0,An,A8 zq0,An,show Ay I0 (k,n,(m:Int),[],(0:Int),())=_ from hr,Aj]
 simp only[Int.toNat_natCast,show(0:Int).toNat=0 from rfl,List.drop_zero,List.nil_append,List.length_nil,Nat.zero_add]
 rw[Am zq0,A5,Am zq0,A5,Am zq1,A5]
 rfl
def Mm (st p:List YB) (i:Nat):List YB:=(List.range i).map fun j=>Aat (st[j]?.getD (0,())).1 (p[j]?.getD (0,())).1
theorem Avx (st p:List YB) (i:Nat):Mm st p (i+1)=Mm st p i++[Aat (st[i]?.getD (0,())).1 (p[i]?.getD (0,())).1]:=by unfold Mm;rw[List.range_succ,List.map_append];rfl
theorem Aau (st p:List YB) (i:Nat):(Mm st p i).length=i:=by simp[Mm]
def mix (k n p:List YB):List YB:=if p.length≤200∧n.length≤100∧k.length≤1048576 then Mm (D6 k n p.length) p p.length else []
theorem Al1 (k n p:List YB):(mix k n p).length≤p.length:=by
 unfold mix
 split
 ·rw[Aau];exact Nat.le_refl _
 ·simp
theorem A4k (k n p:List YB):Am1 (k,()) (n,()) (p,())=some (mix k n p,()):=by
 unfold Am1 At3 mix
 simp only[Ag,Ai,Ad]
 by_cases h1:p.length≤200
 ·rw[A8 zq0,An]
  by_cases h2:n.length≤100
  ·rw[A8 zq0,An]
   by_cases h3:k.length≤1048576
   ·have hs:=Aie k n p.length h1 h2 h3
    have hr:=Cq (B:=Od) p.length (fun i=>(p,Mm (D6 k n p.length) p i,D6 k n p.length,((D6 k n p.length).length:Int),(i:Int),())) (Mm (D6 k n p.length) p p.length,())
     (fun i hi=>by
      have hx:=List.getElem?_eq_getElem hi
      have hy:=List.getElem?_eq_getElem (show i<(D6 k n p.length).length by omega)
      unfold Od
      simp only[Ag,Ai,Ad,Ao]
      rw[Am zq0,Aw,Dl hy,Aj,Dl hx,Aj,Am (by simp[Aau];omega),A5,w64 zq0,Avx,hx,hy]
      rfl)
     (by
      unfold Od
      simp only[Ag,Ai,Ad,Ao]
      rw[A8 zq0,An])
    rw[A8 zq0,An,A8p _ _ _ h1 h2 h3,Aj,if_pos ⟨h1,h2,h3⟩]
    simp only
    rw[show Ay Od (p,[],D6 k n p.length,((D6 k n p.length).length:Int),(0:Int),())=_ from hr]
    rfl
   ·rw[Am zq0,Aw,if_neg zq0]
  ·rw[Am zq0,Aw,if_neg zq0]
 ·rw[Am zq0,Aw,if_neg zq0]
theorem A6s (a b:Int):Aat a b=Aat b a:=by unfold Aat;rw[BitVec.xor_comm]
theorem Baa (k n p:List YB):Am0 (k,()) (n,()) (p,())=some (mix k n p,()):=by
 unfold Am0 Ats mix
 simp only[Ag,Ai,Ad]
 by_cases h1:p.length≤200
 ·rw[A8 zq0,An]
  by_cases h2:n.length≤100
  ·rw[A8 zq0,An]
   by_cases h3:k.length≤1048576
   ·have hs:=Aie k n p.length h1 h2 h3
    have hr:=Cq (B:=Oc) p.length (fun i=>(p,Mm (D6 k n p.length) p i,D6 k n p.length,(i:Int),())) (Mm (D6 k n p.length) p p.length,())
     (fun i hi=>by
      have hx:=List.getElem?_eq_getElem hi
      have hy:=List.getElem?_eq_getElem (show i<(D6 k n p.length).length by omega)
      unfold Oc
      simp only[Ag,Ai,Ad,Ao]
      rw[Am zq0,Aw,Dl hx,Aj,Dl hy,Aj,Am (by simp[Aau];omega),A5,w64 zq0,Avx,hx,hy]
      rw[A6s]
      rfl)
     (by
      unfold Oc
      simp only[Ag,Ai,Ad,Ao]
      rw[A8 zq0,An])
    rw[A8 zq0,An,A8q _ _ _ h1 h2 h3,Aj,if_pos ⟨h1,h2,h3⟩]
    simp only
    rw[show Ay Oc (p,[],D6 k n p.length,(0:Int),())=_ from hr]
    rfl
   ·rw[Am zq0,Aw,if_neg zq0]
  ·rw[Am zq0,Aw,if_neg zq0]
 ·rw[Am zq0,Aw,if_neg zq0]
end
end Go.Proofs.YtmhhajdeafijmaaGreat
