/-
  That the program and the reference answer alike, in plain terms, and that the laws answer true.
-/
import Derived.Test.YtmhhajdeafijmaaGreatL8
namespace Go.Proofs.YtmhhajdeafijmaaGreat
open Go.RowKit
set_option linter.unusedVariables false
set_option linter.unusedSimpArgs false
set_option maxHeartbeats 4000000
noncomputable section
def Fx (h:List YI) (b:List YB):List YI×List YB:=if 64≤b.length then Fx (G7 h (b.take 64)) (b.drop 64)else(h,b)
termination_by b.length
decreasing_by simp;omega
theorem T9 {h:List YI} {b:List YB} (hb:64≤b.length):Fx h b=Fx (G7 h (b.take 64)) (b.drop 64):=by rw[Fx,if_pos hb]
theorem Kd {h:List YI} {b:List YB} (hb: ¬64≤b.length):Fx h b=(h,b):=by rw[Fx,if_neg hb]
theorem A68: ∀(n:Nat) (h:List YI) (b p:List YB),b.length≤n→Fx h (b++p)=Fx (Fx h b).1 ((Fx h b).2++p):=by
 intro n
 induction n with
 |zero=>intro h b p hn;rw[Kd (b:=b) zq0]
 |succ n ih=>
  intro h b p hn
  by_cases hb:64≤b.length
  ·rw[T9 (b:=b) hb,T9 (b:=b++p) zq1,List.take_append_of_le_length hb,List.drop_append_of_le_length hb]
   exact ih _ _ _ zq1
  ·rw[Kd (b:=b) hb]
theorem Ac3: ∀(n:Nat) (h:List YI) (b:List YB),b.length≤n→h.length≤1073741824→(Fx h b).2.length=b.length%64∧(Fx h b).1.length=h.length∧(Ei h=true→Ei (Fx h b).1=true):=by
 intro n
 induction n with
 |zero=>intro h b hn hh;rw[Kd zq0];exact⟨by simp;omega,rfl,id⟩
 |succ n ih=>
  intro h b hn hh
  by_cases hb:64≤b.length
  ·rw[T9 hb]
   have hc:=Xl h (b.take 64) hh zq1
   obtain⟨h1,h2,h3⟩:=ih (G7 h (b.take 64)) (b.drop 64) zq1 zq0
   refine⟨?_,by omega,fun hw=>h3 (hc.2 hw)⟩
   rw[h1,List.length_drop];omega
  ·rw[Kd hb];exact⟨by simp only;omega,rfl,id⟩
theorem Ahl (h:List YI) (b:List YB) (hh:h.length≤1073741824) (hb:b.length≤4294967296):Lw (h,()) (b,())=some (((Fx h b).1,()),((Fx h b).2,())):=by
 have key: ∀(n:Nat) (h:List YI) (b:List YB),b.length≤n→h.length≤1073741824→b.length≤4294967296→Ay Ey (h,b,())=some ((Fx h b).1,(Fx h b).2,()):=by
  intro n
  induction n with
  |zero=>
   intro h b hn hh hb
   rw[Kd zq0,C9]
   unfold Ey
   simp only[Ae,Ak,Ai,Ac]
   rw[Bj zq0,An]
  |succ n ih=>
   intro h b hn hh hb
   rw[C9]
   by_cases h64:64≤b.length
   ·have hB:Ey (h,b,())=some (.inl (G7 h (b.take 64),b.drop 64,())):=by
     unfold Ey
     simp only[Ae,Ak,Ai,Ac]
     rw[Am zq0,A0,Am zq0]
     simp only[Ba,show(64:Int).toNat=64 from rfl,show(0:Int).toNat=0 from rfl,List.drop_zero,Int.toNat_natCast,List.take_length]
     rw[A2x _ _ hh zq1,Ag]
    have hc:=Xl h (b.take 64) hh zq1
    rw[hB,T9 h64,←ih (G7 h (b.take 64)) (b.drop 64) zq1 zq0 zq1]
   ·unfold Ey
    simp only[Ae,Ak,Ai,Ac]
    rw[Bj zq0,An,Kd h64]
 unfold Lw Qr
 simp only[Ai,Ac]
 rw[key _ h b (Nat.le_refl _) hh hb]
 rfl
theorem A43 (all:List YB) (ha:all.length≤4294967296): ∀(n i:Nat) (h:List YI),all.length-i≤n→i≤all.length→(all.length-i)%64=0→h.length≤1073741824→Ay Pi (all,h,(i:Int),())=some ((Fx h (all.drop i)).1,()):=by
 intro n
 induction n with
 |zero=>
  intro i h hn hi hm hh
  rw[Kd zq1,C9]
  unfold Pi
  simp only[Ae,Ak,Ai,Ac]
  rw[Bj zq0,An]
 |succ n ih=>
  intro i h hn hi hm hh
  rw[C9]
  unfold Pi
  simp only[Ae,Ak,Ai,Ac]
  by_cases h64:i<all.length
  ·rw[Am zq0,A0,Am zq0,Ba,w64 (n:=(i:Int)+64) zq0,Am zq0,Ba,Am zq0,Ba]
   have e:(all.take ((i:Int)+64).toNat).drop ((i:Int)).toNat=(all.drop i).take 64:=by
    rw[show((i:Int)+64).toNat=i+64 by omega,Int.toNat_natCast,List.drop_take,Nat.add_sub_cancel_left]
   rw[e,A2y _ _ hh zq1,Ag]
   simp only
   have hc:=Xl h ((all.drop i).take 64) hh zq1
   rw[T9 (b:=all.drop i) zq1,List.drop_drop,show(i:Int)+64=((i+64:Nat):Int) by omega]
   exact ih (i+64) _ zq0 zq0 zq0 zq0
  ·rw[Bj zq0,An,Kd zq1]
theorem Aw8 (m:Int) (j:Nat) (h0:0≤m) (h1:m<4294967296) (hj:4≤j) (hj2:j≤7):byt m j=((0:Int),()):=by
 have e:Int.fdiv m (2^(min (8*j) IntKind.i64.bits))=0:=by
  have hp:(4294967296:Int)≤2^(min (8*j) IntKind.i64.bits):=by
   have:j=4∨j=5∨j=6∨j=7:=by omega
   rcases this with rfl|rfl|rfl|rfl<;>decide
  rw[Int.fdiv_eq_ediv_of_nonneg _ zq0]
  exact Int.ediv_eq_zero_of_lt h0 zq0
 unfold byt
 rw[e];rfl
def Abo (n:Nat):Nat:=(64-(n+9)%64)%64
def Sv (n:Nat):List YB:=(((128:Int),())::List.replicate (Abo n) ((0:Int),()))++([((0:Int),()),((0:Int),())]++Fw (8*(n:Int)) 6 6)
theorem Aw9 (n:Nat):(Sv n).length=Abo n+9:=by simp[Sv,G6]
theorem A1b (n:Nat) (h:n≤1048576):Ay Mf ((n:Int),[((128:Int),())],())=some ((n:Int),((128:Int),())::List.replicate (Abo n) ((0:Int),()),()):=by
 have hk:Abo n=(64-(n+9)%64)%64:=rfl
 refine Cp (B:=Mf) (Abo n) (fun i=>((n:Int),((128:Int),())::List.replicate i ((0:Int),()),())) _ (fun i hi=>?_) ?_
 ·unfold Mf
  simp only[Ae,Ak,Ac,List.length_cons,List.length_replicate]
  rw[w64 (n:=(n:Int)+((i+1:Nat):Int)) zq0,w64 zq0,Am zq0,Ba,Fh zq1,Am zq1,Ba,List.cons_append,←List.replicate_succ']
 ·unfold Mf
  simp only[Ae,Ak,Ac,List.length_cons,List.length_replicate]
  rw[w64 (n:=(n:Int)+((Abo n+1:Nat):Int)) zq0,w64 zq0,Am zq0,Ba,C7 zq1]
theorem Ba2 (n:Nat) (h:n≤1048576):Ase ((n:Int),())=some (Sv n,()):=by
 have hk:Abo n<64:=Nat.mod_lt _ zq0
 unfold Ase Arz
 simp only[Ae,Ak,Ai,Ac,Cj,Ag]
 rw[C7 (by simp[inR];omega),A1b n h,Ag,Am zq1,Ba,w64 zq0,A09 _ _ zq1,Ag]
 unfold Sv
 simp
theorem Ba3 (n:Nat) (h:n≤1048576):Asc ((n:Int),())=some (Sv n,()):=by
 have hk:Abo n<64:=Nat.mod_lt _ zq0
 unfold Asc Arg
 simp only[Ae,Ak,Ai,Ac,Ag]
 rw[Bj zq0,An,Bj zq0,An,show Aht=Mf from rfl,A1b n h,Ag,Ss _ _ zq1,Ag,Ss _ _ (by simp[G6];omega),Ag,w64 zq0]
 unfold Sv
 have e0:Fw 0 4 4=[((0:Int),()),((0:Int),()),((0:Int),()),((0:Int),())]:=by
  unfold Fw
  simp only[show List.range 4=[0,1,2,3]from rfl,List.map]
  rfl
 have e6:Fw (8*(n:Int)) 6 6=[((0:Int),()),((0:Int),())]++Fw (8*(n:Int)) 4 4:=by
  have a:=Aw8 (8*(n:Int)) 5 zq0 zq0 zq0 zq0
  have b:=Aw8 (8*(n:Int)) 4 zq0 zq0 zq0 zq0
  unfold Fw
  simp only[show List.range 4=[0,1,2,3]from rfl,show List.range 6=[0,1,2,3,4,5]from rfl,List.map]
  rw[show 6-1-0=5 from rfl,show 6-1-1=4 from rfl,a,b]
  rfl
 rw[e0,e6]
 simp
def Sw (l:List YI):List YB:=l.flatMap fun x=>Fw x.1 4 4
theorem Afy (l:List YI):(Sw l).length=4*l.length:=by
 unfold Sw
 induction l with
 |nil=>rfl
 |cons x r ih=>simp only[List.flatMap_cons,List.length_append,G6,ih,List.length_cons];omega
theorem At1 (l:List YI) (x:YI):Sw (l++[x])=Sw l++Fw x.1 4 4:=by simp[Sw]
theorem Az8 (l:List YI) (h:l.length≤1048576):Uz (l,())=some (Sw l,()):=by
 have hr:=Cp (B:=Gt) l.length (fun i=>(Sw (l.take i),l,(l.length:Int),(i:Int),())) (Sw l,())
  (fun i hi=>by
   have hx:=List.getElem?_eq_getElem hi
   unfold Gt
   simp only[Ae,Ai,Ac,Et hi,A0,Cb hx,Ag]
   rw[Ac2 _ _ (by rw[Afy];simp;omega),Ag,w64 zq0,←Fe hx,At1]
   rfl)
  (by unfold Gt;simp only[Ae,Ac,Eu,An,List.take_length])
 unfold Uz Us
 simp only[Ai,Ac]
 rw[show Ay Gt ([],l,(l.length:Int),(0:Int),())=_ from hr]
 rfl
theorem A8w (l:List YI) (h:l.length=8):Ai6 (l,())=some (Sw l,()):=by
 have hr:=Cp (B:=Lg) 8 (fun i=>(l,Sw (l.take i),(i:Int),())) (Sw l,())
  (fun i hi=>by
   have hx:=List.getElem?_eq_getElem (show i<l.length by omega)
   unfold Lg
   simp only[Ae,Ai,Ac]
   rw[Am zq0,A0,Cb hx,Ag,Ss _ _ (by rw[Afy];simp;omega),Ag,w64 zq0,←Fe hx,At1]
   rfl)
  (by unfold Lg;simp only[Ae,Ac];rw[Bj zq0,An,←h,List.take_length])
 unfold Ai6 Ahw
 simp only[Ai,Ac]
 rw[show Ay Lg (l,[],(0:Int),())=_ from hr]
 rfl
def Ej:List YI:=[((1779033703:Int),()),((3144134277:Int),()),((1013904242:Int),()),((2773480762:Int),()),((1359893119:Int),()),((2600822924:Int),()),((528734635:Int),()),((1541459225:Int),())]
theorem A44:Ei Ej=true:=by decide
def Ajk (h:Kk):Bool:=(Ei h.1 && ((h.1.length:Int)==8)) && (inR h.2.2.1 0 1048576 && ((h.2.2.1%64)==(h.2.1.length:Int)))
theorem Axa (h:Kk) (hl:h.1.length≤4294967296):Vl h=some (Ajk h,()):=by
 unfold Vl Aev Ajk
 simp only[Ae,Ak,Ai,Ac,Cj,Ag]
 rw[Aft _ _ hl,Ag]
 cases (Ei h.1 && ((h.1.length:Int)==8))with
 |false=>rfl
 |true=>
  cases hn:inR h.2.2.1 0 1048576 with
  |false=>rfl
  |true=>
   have:=Bp.1 hn
   simp only[A0]
   rw[Am zq0,Ba]
   simp
def sha (b:List YB):List YB:=if b.length≤1048576 then Sw (Fx Ej (b++Sv b.length)).1 else []
theorem A1c (b:List YB):(sha b).length=32∨(sha b).length=0:=by
 unfold sha
 split
 ·left
  rw[Afy,(Ac3 _ Ej _ (Nat.le_refl _) zq4).2.1];rfl
 ·right;rfl
theorem A2z (b:List YB):Aco (b,())=some (sha b,()):=by
 unfold Aco Ark sha
 simp only[Ae,Ak,Ai,Ac,List.nil_append,List.length_nil,Nat.zero_add]
 by_cases h:b.length≤1048576
 ·have hp:=Aw9 b.length
  have hk:Abo b.length=(64-(b.length+9)%64)%64:=rfl
  have hl:=A43 (b++Sv b.length) zq1 (b++Sv b.length).length 0 Ej zq0 zq0 zq1 zq4
  rw[List.drop_zero]at hl
  rw[Bj zq0,An,Am zq0,Ba,Ba3 _ h,Ag,Am zq1,Ba,show Att=some (Ej,())from rfl,Ag]
  rw[show Ay Pi (b++Sv b.length,Ej,(0:Int),())=_ from hl,Ag]
  rw[A8w _ ((Ac3 _ Ej _ (Nat.le_refl _) zq4).2.1),if_pos h]
  rfl
 ·rw[Am zq0,A0,if_neg h]
theorem A20 (b:List YB) (hb:b.length≤4294967296):Acq (b,())=some (sha b,()):=by
 unfold Acq Ar2 sha
 simp only[Ae,Ai,Ac]
 by_cases h:b.length≤1048576
 ·have hp:=Aw9 b.length
  have hk:Abo b.length=(64-(b.length+9)%64)%64:=rfl
  have hc:=Ac3 _ Ej b (Nat.le_refl _) zq4
  have h8:Ej.length=8:=rfl
  have hc21:=hc.2.1
  have hc1:=hc.1
  have e1:Abf (Ej,[],0,()) (b,())=some ((Fx Ej b).1,(Fx Ej b).2,(b.length:Int),()):=by
   unfold Abf Aa4
   simp only[Ae,Ak,Ai,Ac,List.nil_append,List.length_nil,Nat.zero_add]
   rw[Axa _ zq4,Ag,show Ajk (Ej,[],0,())=true by decide]
   simp only[Bool.not_true,An]
   rw[w64 (n:=1048576-0) zq0,Bj zq0,An,Ks _ (by simp[cat];omega) zq3,Ag,show cat [([],()),(b,())]=b by simp[cat],Ahl _ _ zq4 zq0,Ag]
   simp only
   rw[Am zq0,Ba,Cw _ zq2,Ag,w64 zq0]
   simp
  have e2:Abg ((Fx Ej b).1,(Fx Ej b).2,(b.length:Int),())=some (Sw (Fx Ej (b++Sv b.length)).1,()):=by
   unfold Abg Aa5
   simp only[Ae,Ak,Ai,Ac]
   rw[Axa _ (by dsimp only;rw[hc.2.1];decide),Ag]
   have ok:Ajk ((Fx Ej b).1,(Fx Ej b).2,(b.length:Int),())=true:=by
    unfold Ajk
    simp only[hc.2.2 A44,hc.2.1,Bool.and_eq_true]
    refine⟨by decide,Bp.2 zq0,?_⟩
    rw[hc.1];simp
   rw[ok]
   simp only[Bool.not_true,An]
   rw[Ba2 _ h,Ag,Ks _ (by simp[cat];omega) zq3,Ag,show cat [((Fx Ej b).2,()),(Sv b.length,())]=(Fx Ej b).2++Sv b.length by simp[cat],Ahl _ _ (by rw[hc.2.1];decide) zq1,Ag,←A68 _ _ _ _ (Nat.le_refl _)]
   simp only
   rw[Az8 _ (by rw[(Ac3 _ Ej _ (Nat.le_refl _) zq4).2.1];decide)]
   rfl
  rw[Bj zq0,An,show Al4=some (Ej,[],0,())from rfl,Ag,e1,Ag,e2,Ag,if_pos h]
 ·rw[Am zq0,A0,if_neg h]
end
end Go.Proofs.YtmhhajdeafijmaaGreat
