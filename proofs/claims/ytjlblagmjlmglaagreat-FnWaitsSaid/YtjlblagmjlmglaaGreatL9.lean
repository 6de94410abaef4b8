/-
  That the program and the reference answer alike, in plain terms, and that the laws answer true.
-/
import Derived.Test.YtjlblagmjlmglaaGreatL8
namespace Go.Proofs.YtjlblagmjlmglaaGreat
open Go.RowKit
set_option linter.unusedVariables false
set_option linter.unusedSimpArgs false
set_option maxHeartbeats 4000000
noncomputable section
def Fh (h:List YI) (b:List YB):List YI×List YB:=if 64≤b.length then Fh (Gg h (b.take 64)) (b.drop 64)else(h,b)
termination_by b.length
decreasing_by simp;omega
theorem So {h:List YI} {b:List YB} (hb:64≤b.length):Fh h b=Fh (Gg h (b.take 64)) (b.drop 64):=by rw[Fh,if_pos hb]
theorem I9 {h:List YI} {b:List YB} (hb: ¬64≤b.length):Fh h b=(h,b):=by rw[Fh,if_neg hb]
theorem A9i: ∀(n:Nat) (h:List YI) (b p:List YB),b.length≤n→Fh h (b++p)=Fh (Fh h b).1 ((Fh h b).2++p):=by
 intro n
 induction n with
 |zero=>intro h b p hn;rw[I9 (b:=b) zq0]
 |succ n ih=>
  intro h b p hn
  by_cases hb:64≤b.length
  ·rw[So (b:=b) hb,So (b:=b++p) zq1,List.take_append_of_le_length hb,List.drop_append_of_le_length hb]
   exact ih _ _ _ zq1
  ·rw[I9 (b:=b) hb]
theorem Aeu: ∀(n:Nat) (h:List YI) (b:List YB),b.length≤n→h.length≤1073741824→(Fh h b).2.length=b.length%64∧(Fh h b).1.length=h.length∧(D3 h=true→D3 (Fh h b).1=true):=by
 intro n
 induction n with
 |zero=>intro h b hn hh;rw[I9 zq0];exact⟨by simp;omega,rfl,id⟩
 |succ n ih=>
  intro h b hn hh
  by_cases hb:64≤b.length
  ·rw[So hb]
   have hc:=Z4 h (b.take 64) hh zq1
   obtain⟨h1,h2,h3⟩:=ih (Gg h (b.take 64)) (b.drop 64) zq1 zq0
   refine⟨?_,by omega,fun hw=>h3 (hc.2 hw)⟩
   rw[h1,List.length_drop];omega
  ·rw[I9 hb];exact⟨by simp only;omega,rfl,id⟩
theorem Aje (h:List YI) (b:List YB) (hh:h.length≤1073741824) (hb:b.length≤4294967296):Kl (h,()) (b,())=some (((Fh h b).1,()),((Fh h b).2,())):=by
 have key: ∀(n:Nat) (h:List YI) (b:List YB),b.length≤n→h.length≤1073741824→b.length≤4294967296→Az Eb (h,b,())=some ((Fh h b).1,(Fh h b).2,()):=by
  intro n
  induction n with
  |zero=>
   intro h b hn hh hb
   rw[I9 zq0,Cf]
   unfold Eb
   simp only[Ai,Ap,Aj,Ad]
   rw[Bb zq0,Aq]
  |succ n ih=>
   intro h b hn hh hb
   rw[Cf]
   by_cases h64:64≤b.length
   ·have hB:Eb (h,b,())=some (.inl (Gg h (b.take 64),b.drop 64,())):=by
     unfold Eb
     simp only[Ai,Ap,Aj,Ad]
     rw[Ao zq0,Ax,Ao zq0]
     simp only[A8,show(64:Int).toNat=64 from rfl,show(0:Int).toNat=0 from rfl,List.drop_zero,Int.toNat_natCast,List.take_length]
     rw[A4s _ _ hh zq1,Al]
    have hc:=Z4 h (b.take 64) hh zq1
    rw[hB,So h64,←ih (Gg h (b.take 64)) (b.drop 64) zq1 zq0 zq1]
   ·unfold Eb
    simp only[Ai,Ap,Aj,Ad]
    rw[Bb zq0,Aq,I9 h64]
 unfold Kl Oq
 simp only[Aj,Ad]
 rw[key _ h b (Nat.le_refl _) hh hb]
 rfl
theorem A67 (all:List YB) (ha:all.length≤4294967296): ∀(n i:Nat) (h:List YI),all.length-i≤n→i≤all.length→(all.length-i)%64=0→h.length≤1073741824→Az Np (all,h,(i:Int),())=some ((Fh h (all.drop i)).1,()):=by
 intro n
 induction n with
 |zero=>
  intro i h hn hi hm hh
  rw[I9 zq1,Cf]
  unfold Np
  simp only[Ai,Ap,Aj,Ad]
  rw[Bb zq0,Aq]
 |succ n ih=>
  intro i h hn hi hm hh
  rw[Cf]
  unfold Np
  simp only[Ai,Ap,Aj,Ad]
  by_cases h64:i<all.length
  ·rw[Ao zq0,Ax,Ao zq0,A8,w64 (n:=(i:Int)+64) zq0,Ao zq0,A8,Ao zq0,A8]
   have e:(all.take ((i:Int)+64).toNat).drop ((i:Int)).toNat=(all.drop i).take 64:=by
    rw[show((i:Int)+64).toNat=i+64 by omega,Int.toNat_natCast,List.drop_take,Nat.add_sub_cancel_left]
   rw[e,A4t _ _ hh zq1,Al]
   simp only
   have hc:=Z4 h ((all.drop i).take 64) hh zq1
   rw[So (b:=all.drop i) zq1,List.drop_drop,show(i:Int)+64=((i+64:Nat):Int) by omega]
   exact ih (i+64) _ zq0 zq0 zq0 zq0
  ·rw[Bb zq0,Aq,I9 zq1]
theorem Azc (m:Int) (j:Nat) (h0:0≤m) (h1:m<4294967296) (hj:4≤j) (hj2:j≤7):byt m j=((0:Int),()):=by
 have e:Int.fdiv m (2^(min (8*j) IntKind.i64.bits))=0:=by
  have hp:(4294967296:Int)≤2^(min (8*j) IntKind.i64.bits):=by
   have:j=4∨j=5∨j=6∨j=7:=by omega
   rcases this with rfl|rfl|rfl|rfl<;>decide
  rw[Int.fdiv_eq_ediv_of_nonneg _ zq0]
  exact Int.ediv_eq_zero_of_lt h0 zq0
 unfold byt
 rw[e];rfl
def Ac8 (n:Nat):Nat:=(64-(n+9)%64)%64
def Qr (n:Nat):List YB:=(((128:Int),())::List.replicate (Ac8 n) ((0:Int),()))++([((0:Int),()),((0:Int),())]++Fg (8*(n:Int)) 6 6)
theorem Azd (n:Nat):(Qr n).length=Ac8 n+9:=by simp[Qr,Gf]
theorem A27 (n:Nat) (h:n≤1048576):Az K7 ((n:Int),[((128:Int),())],())=some ((n:Int),((128:Int),())::List.replicate (Ac8 n) ((0:Int),()),()):=by
 have hk:Ac8 n=(64-(n+9)%64)%64:=rfl
 refine C5 (B:=K7) (Ac8 n) (fun i=>((n:Int),((128:Int),())::List.replicate i ((0:Int),()),())) _ (fun i hi=>?_) ?_
 ·unfold K7
  simp only[Ai,Ap,Ad,List.length_cons,List.length_replicate]
  rw[w64 (n:=(n:Int)+((i+1:Nat):Int)) zq0,w64 zq0,Ao zq0,A8,Ec zq1,Ao zq1,A8,List.cons_append,←List.replicate_succ']
 ·unfold K7
  simp only[Ai,Ap,Ad,List.length_cons,List.length_replicate]
  rw[w64 (n:=(n:Int)+((Ac8 n+1:Nat):Int)) zq0,w64 zq0,Ao zq0,A8,Co zq1]
theorem Bdp (n:Nat) (h:n≤1048576):At7 ((n:Int),())=some (Qr n,()):=by
 have hk:Ac8 n<64:=Nat.mod_lt _ zq0
 unfold At7 Atz
 simp only[Ai,Ap,Aj,Ad,B6,Al]
 rw[Co zq5,A27 n h,Al,Ao zq1,A8,w64 zq0,A24 _ _ zq1,Al]
 unfold Qr
 simp
theorem Bdq (n:Nat) (h:n≤1048576):At5 ((n:Int),())=some (Qr n,()):=by
 have hk:Ac8 n<64:=Nat.mod_lt _ zq0
 unfold At5 Atl
 simp only[Ai,Ap,Aj,Ad,Al]
 rw[Bb zq0,Aq,Bb zq0,Aq,show Ajy=K7 from rfl,A27 n h,Al,Qq _ _ zq1,Al,Qq _ _ (by simp[Gf];omega),Al,w64 zq0]
 unfold Qr
 have e0:Fg 0 4 4=[((0:Int),()),((0:Int),()),((0:Int),()),((0:Int),())]:=by
  unfold Fg
  simp only[show List.range 4=[0,1,2,3]from rfl,List.map]
  rfl
 have e6:Fg (8*(n:Int)) 6 6=[((0:Int),()),((0:Int),())]++Fg (8*(n:Int)) 4 4:=by
  have a:=Azc (8*(n:Int)) 5 zq0 zq0 zq0 zq0
  have b:=Azc (8*(n:Int)) 4 zq0 zq0 zq0 zq0
  unfold Fg
  simp only[show List.range 4=[0,1,2,3]from rfl,show List.range 6=[0,1,2,3,4,5]from rfl,List.map]
  rw[show 6-1-0=5 from rfl,show 6-1-1=4 from rfl,a,b]
  rfl
 rw[e0,e6]
 simp
def Qs (l:List YI):List YB:=l.flatMap fun x=>Fg x.1 4 4
theorem Aht (l:List YI):(Qs l).length=4*l.length:=by
 unfold Qs
 induction l with
 |nil=>rfl
 |cons x r ih=>simp only[List.flatMap_cons,List.length_append,Gf,ih,List.length_cons];omega
theorem Av4 (l:List YI) (x:YI):Qs (l++[x])=Qs l++Fg x.1 4 4:=by simp[Qs]
theorem A16 (l:List YI) (h:l.length≤1048576):Tl (l,())=some (Qs l,()):=by
 have hr:=C5 (B:=F6) l.length (fun i=>(Qs (l.take i),l,(l.length:Int),(i:Int),())) (Qs l,())
  (fun i hi=>by
   have hx:=List.getElem?_eq_getElem hi
   unfold F6
   simp only[Ai,Aj,Ad,Zw hi,Ax,Dz hx,Al]
   rw[Amu _ _ (by rw[Aht];simp;omega),Al,w64 zq0,←Gs hx,Av4]
   rfl)
  (by unfold F6;simp only[Ai,Ad,Zx,Aq,List.take_length])
 unfold Tl Tj
 simp only[Aj,Ad]
 rw[show Az F6 ([],l,(l.length:Int),(0:Int),())=_ from hr]
 rfl
theorem Ba4 (l:List YI) (h:l.length=8):Ak6 (l,())=some (Qs l,()):=by
 have hr:=C5 (B:=J9) 8 (fun i=>(l,Qs (l.take i),(i:Int),())) (Qs l,())
  (fun i hi=>by
   have hx:=List.getElem?_eq_getElem (show i<l.length by omega)
   unfold J9
   simp only[Ai,Aj,Ad]
   rw[Ao zq0,Ax,Dz hx,Al,Qq _ _ (by rw[Aht];simp;omega),Al,w64 zq0,←Gs hx,Av4]
   rfl)
  (by unfold J9;simp only[Ai,Ad];rw[Bb zq0,Aq,←h,List.take_length])
 unfold Ak6 Aj1
 simp only[Aj,Ad]
 rw[show Az J9 (l,[],(0:Int),())=_ from hr]
 rfl
def D4:List YI:=[((1779033703:Int),()),((3144134277:Int),()),((1013904242:Int),()),((2773480762:Int),()),((1359893119:Int),()),((2600822924:Int),()),((528734635:Int),()),((1541459225:Int),())]
theorem A68:D3 D4=true:=by decide
def Alp (h:Jk):Bool:=(D3 h.1 && ((h.1.length:Int)==8)) && (inR h.2.2.1 0 1048576 && ((h.2.2.1%64)==(h.2.1.length:Int)))
theorem Aze (h:Jk) (hl:h.1.length≤4294967296):Wr h=some (Alp h,()):=by
 unfold Wr Agv Alp
 simp only[Ai,Ap,Aj,Ad,B6,Al]
 rw[Ahp _ _ hl,Al]
 cases (D3 h.1 && ((h.1.length:Int)==8))with
 |false=>rfl
 |true=>
  cases hn:inR h.2.2.1 0 1048576 with
  |false=>rfl
  |true=>
   have:=Bf.1 hn
   simp only[Ax]
   rw[Ao zq0,A8]
   simp
def sha (b:List YB):List YB:=if b.length≤1048576 then Qs (Fh D4 (b++Qr b.length)).1 else []
theorem A28 (b:List YB):(sha b).length=32∨(sha b).length=0:=by
 unfold sha
 split
 ·left
  rw[Aht,(Aeu _ D4 _ (Nat.le_refl _) zq4).2.1];rfl
 ·right;rfl
theorem A4u (b:List YB):Aej (b,())=some (sha b,()):=by
 unfold Aej Atp sha
 simp only[Ai,Ap,Aj,Ad,List.nil_append,List.length_nil,Nat.zero_add]
 by_cases h:b.length≤1048576
 ·have hp:=Azd b.length
  have hk:Ac8 b.length=(64-(b.length+9)%64)%64:=rfl
  have hl:=A67 (b++Qr b.length) zq1 (b++Qr b.length).length 0 D4 zq0 zq0 zq1 zq4
  rw[List.drop_zero]at hl
  rw[Bb zq0,Aq,Ao zq0,A8,Bdq _ h,Al,Ao zq1,A8,show Avy=some (D4,())from rfl,Al]
  rw[show Az Np (b++Qr b.length,D4,(0:Int),())=_ from hl,Al]
  rw[Ba4 _ ((Aeu _ D4 _ (Nat.le_refl _) zq4).2.1),if_pos h]
  rfl
 ·rw[Ao zq0,Ax,if_neg h]
theorem A4v (b:List YB) (hb:b.length≤4294967296):Ael (b,())=some (sha b,()):=by
 unfold Ael At2 sha
 simp only[Ai,Aj,Ad]
 by_cases h:b.length≤1048576
 ·have hp:=Azd b.length
  have hk:Ac8 b.length=(64-(b.length+9)%64)%64:=rfl
  have hc:=Aeu _ D4 b (Nat.le_refl _) zq4
  have h8:D4.length=8:=rfl
  have hc21:=hc.2.1
  have hc1:=hc.1
  have e1:Acz (D4,[],0,()) (b,())=some ((Fh D4 b).1,(Fh D4 b).2,(b.length:Int),()):=by
   unfold Acz Acn
   simp only[Ai,Ap,Aj,Ad,List.nil_append,List.length_nil,Nat.zero_add]
   rw[Aze _ zq4,Al,show Alp (D4,[],0,())=true by decide]
   simp only[Bool.not_true,Aq]
   rw[w64 (n:=1048576-0) zq0,Bb zq0,Aq,Ie _ (by simp[cat];omega) zq3,Al,show cat [([],()),(b,())]=b by simp[cat],Aje _ _ zq4 zq0,Al]
   simp only
   rw[Ao zq0,A8,Cg _ zq2,Al,w64 zq0]
   simp
  have e2:Ac0 ((Fh D4 b).1,(Fh D4 b).2,(b.length:Int),())=some (Qs (Fh D4 (b++Qr b.length)).1,()):=by
   unfold Ac0 Aco
   simp only[Ai,Ap,Aj,Ad]
   rw[Aze _ (by dsimp only;rw[hc.2.1];decide),Al]
   have ok:Alp ((Fh D4 b).1,(Fh D4 b).2,(b.length:Int),())=true:=by
    unfold Alp
    simp only[hc.2.2 A68,hc.2.1,Bool.and_eq_true]
    refine⟨by decide,Bf.2 zq0,?_⟩
    rw[hc.1];simp
   rw[ok]
   simp only[Bool.not_true,Aq]
   rw[Bdp _ h,Al,Ie _ (by simp[cat];omega) zq3,Al,show cat [((Fh D4 b).2,()),(Qr b.length,())]=(Fh D4 b).2++Qr b.length by simp[cat],Aje _ _ (by rw[hc.2.1];decide) zq1,Al,←A9i _ _ _ _ (Nat.le_refl _)]
   simp only
   rw[A16 _ (by rw[(Aeu _ D4 _ (Nat.le_refl _) zq4).2.1];decide)]
   rfl
  rw[Bb zq0,Aq,show Aoa=some (D4,[],0,())from rfl,Al,e1,Al,e2,Al,if_pos h]
 ·rw[Ao zq0,Ax,if_neg h]
end
end Go.Proofs.YtjlblagmjlmglaaGreat
