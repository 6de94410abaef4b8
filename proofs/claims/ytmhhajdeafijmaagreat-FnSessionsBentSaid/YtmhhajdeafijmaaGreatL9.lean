/-
  That the program and the reference answer alike, in plain terms, and that the laws answer true.
-/
import Derived.Test.YtmhhajdeafijmaaGreatL8
namespace Go.Proofs.YtmhhajdeafijmaaGreat
open Go.RowKit
set_option linter.unusedVariables false
set_option linter.unusedSimpArgs false
set_option maxHeartbeats 4000000
noncomputable section
def Fj (h:List YI) (b:List YB):List YI×List YB:=if 64≤b.length then Fj (Gr h (b.take 64)) (b.drop 64)else(h,b)
termination_by b.length
decreasing_by simp;omega
theorem Tc {h:List YI} {b:List YB} (hb:64≤b.length):Fj h b=Fj (Gr h (b.take 64)) (b.drop 64):=by rw[Fj,if_pos hb]
theorem Ju {h:List YI} {b:List YB} (hb: ¬64≤b.length):Fj h b=(h,b):=by rw[Fj,if_neg hb]
theorem A68: ∀(n:Nat) (h:List YI) (b p:List YB),b.length≤n→Fj h (b++p)=Fj (Fj h b).1 ((Fj h b).2++p):=by
 intro n
 induction n with
 |zero=>intro h b p hn;rw[Ju (b:=b) zq0]
 |succ n ih=>
  intro h b p hn
  by_cases hb:64≤b.length
  ·rw[Tc (b:=b) hb,Tc (b:=b++p) zq1,List.take_append_of_le_length hb,List.drop_append_of_le_length hb]
   exact ih _ _ _ zq1
  ·rw[Ju (b:=b) hb]
theorem Acg: ∀(n:Nat) (h:List YI) (b:List YB),b.length≤n→h.length≤1073741824→(Fj h b).2.length=b.length%64∧(Fj h b).1.length=h.length∧(D8 h=true→D8 (Fj h b).1=true):=by
 intro n
 induction n with
 |zero=>intro h b hn hh;rw[Ju zq0];exact⟨by simp;omega,rfl,id⟩
 |succ n ih=>
  intro h b hn hh
  by_cases hb:64≤b.length
  ·rw[Tc hb]
   have hc:=W2 h (b.take 64) hh zq1
   obtain⟨h1,h2,h3⟩:=ih (Gr h (b.take 64)) (b.drop 64) zq1 zq0
   refine⟨?_,by omega,fun hw=>h3 (hc.2 hw)⟩
   rw[h1,List.length_drop];omega
  ·rw[Ju hb];exact⟨by simp only;omega,rfl,id⟩
theorem Ahh (h:List YI) (b:List YB) (hh:h.length≤1073741824) (hb:b.length≤4294967296):Kw (h,()) (b,())=some (((Fj h b).1,()),((Fj h b).2,())):=by
 have key: ∀(n:Nat) (h:List YI) (b:List YB),b.length≤n→h.length≤1073741824→b.length≤4294967296→Ay Ej (h,b,())=some ((Fj h b).1,(Fj h b).2,()):=by
  intro n
  induction n with
  |zero=>
   intro h b hn hh hb
   rw[Ju zq0,Cz]
   unfold Ej
   simp only[Af,An,Ah,Ac]
   rw[Bi zq0,Ap]
  |succ n ih=>
   intro h b hn hh hb
   rw[Cz]
   by_cases h64:64≤b.length
   ·have hB:Ej (h,b,())=some (.inl (Gr h (b.take 64),b.drop 64,())):=by
     unfold Ej
     simp only[Af,An,Ah,Ac]
     rw[Al zq0,Az,Al zq0]
     simp only[A5,show(64:Int).toNat=64 from rfl,show(0:Int).toNat=0 from rfl,List.drop_zero,Int.toNat_natCast,List.take_length]
     rw[A2p _ _ hh zq1,Ai]
    have hc:=W2 h (b.take 64) hh zq1
    rw[hB,Tc h64,←ih (Gr h (b.take 64)) (b.drop 64) zq1 zq0 zq1]
   ·unfold Ej
    simp only[Af,An,Ah,Ac]
    rw[Bi zq0,Ap,Ju h64]
 unfold Kw Pt
 simp only[Ah,Ac]
 rw[key _ h b (Nat.le_refl _) hh hb]
 rfl
theorem A41 (all:List YB) (ha:all.length≤4294967296): ∀(n i:Nat) (h:List YI),all.length-i≤n→i≤all.length→(all.length-i)%64=0→h.length≤1073741824→Ay Om (all,h,(i:Int),())=some ((Fj h (all.drop i)).1,()):=by
 intro n
 induction n with
 |zero=>
  intro i h hn hi hm hh
  rw[Ju zq1,Cz]
  unfold Om
  simp only[Af,An,Ah,Ac]
  rw[Bi zq0,Ap]
 |succ n ih=>
  intro i h hn hi hm hh
  rw[Cz]
  unfold Om
  simp only[Af,An,Ah,Ac]
  by_cases h64:i<all.length
  ·rw[Al zq0,Az,Al zq0,A5,w64 (n:=(i:Int)+64) zq0,Al zq0,A5,Al zq0,A5]
   have e:(all.take ((i:Int)+64).toNat).drop ((i:Int)).toNat=(all.drop i).take 64:=by
    rw[show((i:Int)+64).toNat=i+64 by omega,Int.toNat_natCast,List.drop_take,Nat.add_sub_cancel_left]
   rw[e,A2q _ _ hh zq1,Ai]
   simp only
   have hc:=W2 h ((all.drop i).take 64) hh zq1
   rw[Tc (b:=all.drop i) zq1,List.drop_drop,show(i:Int)+64=((i+64:Nat):Int) by omega]
   exact ih (i+64) _ zq0 zq0 zq0 zq0
  ·rw[Bi zq0,Ap,Ju zq1]
theorem Axa (m:Int) (j:Nat) (h0:0≤m) (h1:m<4294967296) (hj:4≤j) (hj2:j≤7):byt m j=((0:Int),()):=by
 have e:Int.fdiv m (2^(min (8*j) IntKind.i64.bits))=0:=by
  have hp:(4294967296:Int)≤2^(min (8*j) IntKind.i64.bits):=by
   have:j=4∨j=5∨j=6∨j=7:=by omega
   rcases this with rfl|rfl|rfl|rfl<;>decide
  rw[Int.fdiv_eq_ediv_of_nonneg _ zq0]
  exact Int.ediv_eq_zero_of_lt h0 zq0
 unfold byt
 rw[e];rfl
def Aa5 (n:Nat):Nat:=(64-(n+9)%64)%64
def Rp (n:Nat):List YB:=(((128:Int),())::List.replicate (Aa5 n) ((0:Int),()))++([((0:Int),()),((0:Int),())]++Fi (8*(n:Int)) 6 6)
theorem Axb (n:Nat):(Rp n).length=Aa5 n+9:=by simp[Rp,Ix]
theorem A1c (n:Nat) (h:n≤1048576):Ay Lc ((n:Int),[((128:Int),())],())=some ((n:Int),((128:Int),())::List.replicate (Aa5 n) ((0:Int),()),()):=by
 have hk:Aa5 n=(64-(n+9)%64)%64:=rfl
 refine Cj (B:=Lc) (Aa5 n) (fun i=>((n:Int),((128:Int),())::List.replicate i ((0:Int),()),())) _ (fun i hi=>?_) ?_
 ·unfold Lc
  simp only[Af,An,Ac,List.length_cons,List.length_replicate]
  rw[w64 (n:=(n:Int)+((i+1:Nat):Int)) zq0,w64 zq0,Al zq0,A5,F3 zq1,Al zq1,A5,List.cons_append,←List.replicate_succ']
 ·unfold Lc
  simp only[Af,An,Ac,List.length_cons,List.length_replicate]
  rw[w64 (n:=(n:Int)+((Aa5 n+1:Nat):Int)) zq0,w64 zq0,Al zq0,A5,Dv zq1]
theorem Ba3 (n:Nat) (h:n≤1048576):Arq ((n:Int),())=some (Rp n,()):=by
 have hk:Aa5 n<64:=Nat.mod_lt _ zq0
 unfold Arq Arp
 simp only[Af,An,Ah,Ac,C9,Ai]
 rw[Dv (by simp[inR];omega),A1c n h,Ai,Al zq1,A5,w64 zq0,A1a _ _ zq1,Ai]
 unfold Rp
 simp
theorem Ba4 (n:Nat) (h:n≤1048576):Arh ((n:Int),())=some (Rp n,()):=by
 have hk:Aa5 n<64:=Nat.mod_lt _ zq0
 unfold Arh Arg
 simp only[Af,An,Ah,Ac,Ai]
 rw[Bi zq0,Ap,Bi zq0,Ap,show Ahs=Lc from rfl,A1c n h,Ai,Rn _ _ zq1,Ai,Rn _ _ (by simp[Ix];omega),Ai,w64 zq0]
 unfold Rp
 have e0:Fi 0 4 4=[((0:Int),()),((0:Int),()),((0:Int),()),((0:Int),())]:=by
  unfold Fi
  simp only[show List.range 4=[0,1,2,3]from rfl,List.map]
  rfl
 have e6:Fi (8*(n:Int)) 6 6=[((0:Int),()),((0:Int),())]++Fi (8*(n:Int)) 4 4:=by
  have a:=Axa (8*(n:Int)) 5 zq0 zq0 zq0 zq0
  have b:=Axa (8*(n:Int)) 4 zq0 zq0 zq0 zq0
  unfold Fi
  simp only[show List.range 4=[0,1,2,3]from rfl,show List.range 6=[0,1,2,3,4,5]from rfl,List.map]
  rw[show 6-1-0=5 from rfl,show 6-1-1=4 from rfl,a,b]
  rfl
 rw[e0,e6]
 simp
def Rq (l:List YI):List YB:=l.flatMap fun x=>Fi x.1 4 4
theorem Afu (l:List YI):(Rq l).length=4*l.length:=by
 unfold Rq
 induction l with
 |nil=>rfl
 |cons x r ih=>simp only[List.flatMap_cons,List.length_append,Ix,ih,List.length_cons];omega
theorem At2 (l:List YI) (x:YI):Rq (l++[x])=Rq l++Fi x.1 4 4:=by simp[Rq]
theorem A0f (l:List YI) (h:l.length≤1048576):T2 (l,())=some (Rq l,()):=by
 have hr:=Cj (B:=Ge) l.length (fun i=>(Rq (l.take i),l,(l.length:Int),(i:Int),())) (Rq l,())
  (fun i hi=>by
   have hx:=List.getElem?_eq_getElem hi
   unfold Ge
   simp only[Af,Ah,Ac,En hi,Az,Ce hx,Ai]
   rw[Ak0 _ _ (by rw[Afu];simp;omega),Ai,w64 zq0,←Ey hx,At2]
   rfl)
  (by unfold Ge;simp only[Af,Ac,Eo,Ap,List.take_length])
 unfold T2 T1
 simp only[Ah,Ac]
 rw[show Ay Ge ([],l,(l.length:Int),(0:Int),())=_ from hr]
 rfl
theorem A8u (l:List YI) (h:l.length=8):Ahu (l,())=some (Rq l,()):=by
 have hr:=Cj (B:=Kl) 8 (fun i=>(l,Rq (l.take i),(i:Int),())) (Rq l,())
  (fun i hi=>by
   have hx:=List.getElem?_eq_getElem (show i<l.length by omega)
   unfold Kl
   simp only[Af,Ah,Ac]
   rw[Al zq0,Az,Ce hx,Ai,Rn _ _ (by rw[Afu];simp;omega),Ai,w64 zq0,←Ey hx,At2]
   rfl)
  (by unfold Kl;simp only[Af,Ac];rw[Bi zq0,Ap,←h,List.take_length])
 unfold Ahu Aht
 simp only[Ah,Ac]
 rw[show Ay Kl (l,[],(0:Int),())=_ from hr]
 rfl
def D9:List YI:=[((1779033703:Int),()),((3144134277:Int),()),((1013904242:Int),()),((2773480762:Int),()),((1359893119:Int),()),((2600822924:Int),()),((528734635:Int),()),((1541459225:Int),())]
theorem A42:D8 D9=true:=by decide
def Ajt (h:Jy):Bool:=(D8 h.1 && ((h.1.length:Int)==8)) && (inR h.2.2.1 0 1048576 && ((h.2.2.1%64)==(h.2.1.length:Int)))
theorem Axc (h:Jy) (hl:h.1.length≤4294967296):Um h=some (Ajt h,()):=by
 unfold Um Aeh Ajt
 simp only[Af,An,Ah,Ac,C9,Ai]
 rw[Afp _ _ hl,Ai]
 cases (D8 h.1 && ((h.1.length:Int)==8))with
 |false=>rfl
 |true=>
  cases hn:inR h.2.2.1 0 1048576 with
  |false=>rfl
  |true=>
   have:=C6.1 hn
   simp only[Az]
   rw[Al zq0,A5]
   simp
def sha (b:List YB):List YB:=if b.length≤1048576 then Rq (Fj D9 (b++Rp b.length)).1 else []
theorem A1d (b:List YB):(sha b).length=32∨(sha b).length=0:=by
 unfold sha
 split
 ·left
  rw[Afu,(Acg _ D9 _ (Nat.le_refl _) zq3).2.1];rfl
 ·right;rfl
theorem A2r (b:List YB):Abo (b,())=some (sha b,()):=by
 unfold Abo Arj sha
 simp only[Af,An,Ah,Ac,List.nil_append,List.length_nil,Nat.zero_add]
 by_cases h:b.length≤1048576
 ·have hp:=Axb b.length
  have hk:Aa5 b.length=(64-(b.length+9)%64)%64:=rfl
  have hl:=A41 (b++Rp b.length) zq1 (b++Rp b.length).length 0 D9 zq0 zq0 zq1 zq3
  rw[List.drop_zero]at hl
  rw[Bi zq0,Ap,Al zq0,A5,Ba4 _ h,Ai,Al zq1,A5,show Atg=some (D9,())from rfl,Ai]
  rw[show Ay Om (b++Rp b.length,D9,(0:Int),())=_ from hl,Ai]
  rw[A8u _ ((Acg _ D9 _ (Nat.le_refl _) zq3).2.1),if_pos h]
  rfl
 ·rw[Al zq0,Az,if_neg h]
theorem A2s (b:List YB) (hb:b.length≤4294967296):Abr (b,())=some (sha b,()):=by
 unfold Abr Arr sha
 simp only[Af,Ah,Ac]
 by_cases h:b.length≤1048576
 ·have hp:=Axb b.length
  have hk:Aa5 b.length=(64-(b.length+9)%64)%64:=rfl
  have hc:=Acg _ D9 b (Nat.le_refl _) zq3
  have h8:D9.length=8:=rfl
  have hc21:=hc.2.1
  have hc1:=hc.1
  have e1:Aab (D9,[],0,()) (b,())=some ((Fj D9 b).1,(Fj D9 b).2,(b.length:Int),()):=by
   unfold Aab Aaa
   simp only[Af,An,Ah,Ac,List.nil_append,List.length_nil,Nat.zero_add]
   rw[Axc _ zq3,Ai,show Ajt (D9,[],0,())=true by decide]
   simp only[Bool.not_true,Ap]
   rw[w64 (n:=1048576-0) zq0,Bi zq0,Ap,Lw _ (by simp[cat];omega) (by simp),Ai,show cat [([],()),(b,())]=b by simp[cat],Ahh _ _ zq3 zq0,Ai]
   simp only
   rw[Al zq0,A5,Dc _ zq2,Ai,w64 zq0]
   simp
  have e2:Aad ((Fj D9 b).1,(Fj D9 b).2,(b.length:Int),())=some (Rq (Fj D9 (b++Rp b.length)).1,()):=by
   unfold Aad Aac
   simp only[Af,An,Ah,Ac]
   rw[Axc _ (by dsimp only;rw[hc.2.1];decide),Ai]
   have ok:Ajt ((Fj D9 b).1,(Fj D9 b).2,(b.length:Int),())=true:=by
    unfold Ajt
    simp only[hc.2.2 A42,hc.2.1,Bool.and_eq_true]
    refine⟨by decide,C6.2 zq0,?_⟩
    rw[hc.1];simp
   rw[ok]
   simp only[Bool.not_true,Ap]
   rw[Ba3 _ h,Ai,Lw _ (by simp[cat];omega) (by simp),Ai,show cat [((Fj D9 b).2,()),(Rp b.length,())]=(Fj D9 b).2++Rp b.length by simp[cat],Ahh _ _ (by rw[hc.2.1];decide) zq1,Ai,←A68 _ _ _ _ (Nat.le_refl _)]
   simp only
   rw[A0f _ (by rw[(Acg _ D9 _ (Nat.le_refl _) zq3).2.1];decide)]
   rfl
  rw[Bi zq0,Ap,show Alp=some (D9,[],0,())from rfl,Ai,e1,Ai,e2,Ai,if_pos h]
 ·rw[Al zq0,Az,if_neg h]
end
end Go.Proofs.YtmhhajdeafijmaaGreat
