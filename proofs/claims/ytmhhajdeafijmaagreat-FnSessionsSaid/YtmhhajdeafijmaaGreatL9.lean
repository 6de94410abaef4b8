/-
  That the program and the reference answer alike, in plain terms, and that the laws answer true.
-/
import Derived.Test.YtmhhajdeafijmaaGreatL8
namespace Go.Proofs.YtmhhajdeafijmaaGreat
open Go.RowKit
set_option linter.unusedVariables false
set_option linter.unusedSimpArgs false
set_option maxHeartbeats 4000000
noncomputable section
def Fu (h:List YI) (b:List YB):List YI×List YB:=if 64≤b.length then Fu (G3 h (b.take 64)) (b.drop 64)else(h,b)
termination_by b.length
decreasing_by simp;omega
theorem Tk {h:List YI} {b:List YB} (hb:64≤b.length):Fu h b=Fu (G3 h (b.take 64)) (b.drop 64):=by rw[Fu,if_pos hb]
theorem J3 {h:List YI} {b:List YB} (hb: ¬64≤b.length):Fu h b=(h,b):=by rw[Fu,if_neg hb]
theorem A42: ∀(n:Nat) (h:List YI) (b p:List YB),b.length≤n→Fu h (b++p)=Fu (Fu h b).1 ((Fu h b).2++p):=by
 intro n
 induction n with
 |zero=>intro h b p hn;rw[J3 (b:=b) zq0]
 |succ n ih=>
  intro h b p hn
  by_cases hb:64≤b.length
  ·rw[Tk (b:=b) hb,Tk (b:=b++p) zq1,List.take_append_of_le_length hb,List.drop_append_of_le_length hb]
   exact ih _ _ _ zq1
  ·rw[J3 (b:=b) hb]
theorem Ab5: ∀(n:Nat) (h:List YI) (b:List YB),b.length≤n→h.length≤1073741824→(Fu h b).2.length=b.length%64∧(Fu h b).1.length=h.length∧(Ed h=true→Ed (Fu h b).1=true):=by
 intro n
 induction n with
 |zero=>intro h b hn hh;rw[J3 zq0];exact⟨by simp;omega,rfl,id⟩
 |succ n ih=>
  intro h b hn hh
  by_cases hb:64≤b.length
  ·rw[Tk hb]
   have hc:=Wy h (b.take 64) hh zq1
   obtain⟨h1,h2,h3⟩:=ih (G3 h (b.take 64)) (b.drop 64) zq1 zq0
   refine⟨?_,by omega,fun hw=>h3 (hc.2 hw)⟩
   rw[h1,List.length_drop];omega
  ·rw[J3 hb];exact⟨by simp only;omega,rfl,id⟩
theorem Agh (h:List YI) (b:List YB) (hh:h.length≤1073741824) (hb:b.length≤4294967296):Lg (h,()) (b,())=some (((Fu h b).1,()),((Fu h b).2,())):=by
 have key: ∀(n:Nat) (h:List YI) (b:List YB),b.length≤n→h.length≤1073741824→b.length≤4294967296→Ay Eu (h,b,())=some ((Fu h b).1,(Fu h b).2,()):=by
  intro n
  induction n with
  |zero=>
   intro h b hn hh hb
   rw[J3 zq0,C7]
   unfold Eu
   simp only[Ae,Aj,Ai,Ac]
   rw[Bh zq0,Am]
  |succ n ih=>
   intro h b hn hh hb
   rw[C7]
   by_cases h64:64≤b.length
   ·have hB:Eu (h,b,())=some (.inl (G3 h (b.take 64),b.drop 64,())):=by
     unfold Eu
     simp only[Ae,Aj,Ai,Ac]
     rw[Ak zq0,A0,Ak zq0]
     simp only[A8,show(64:Int).toNat=64 from rfl,show(0:Int).toNat=0 from rfl,List.drop_zero,Int.toNat_natCast,List.take_length]
     rw[A0r _ _ hh zq1,Ag]
    have hc:=Wy h (b.take 64) hh zq1
    rw[hB,Tk h64,←ih (G3 h (b.take 64)) (b.drop 64) zq1 zq0 zq1]
   ·unfold Eu
    simp only[Ae,Aj,Ai,Ac]
    rw[Bh zq0,Am,J3 h64]
 unfold Lg P0
 simp only[Ai,Ac]
 rw[key _ h b (Nat.le_refl _) hh hb]
 rfl
theorem A2x (all:List YB) (ha:all.length≤4294967296): ∀(n i:Nat) (h:List YI),all.length-i≤n→i≤all.length→(all.length-i)%64=0→h.length≤1073741824→Ay Ow (all,h,(i:Int),())=some ((Fu h (all.drop i)).1,()):=by
 intro n
 induction n with
 |zero=>
  intro i h hn hi hm hh
  rw[J3 zq1,C7]
  unfold Ow
  simp only[Ae,Aj,Ai,Ac]
  rw[Bh zq0,Am]
 |succ n ih=>
  intro i h hn hi hm hh
  rw[C7]
  unfold Ow
  simp only[Ae,Aj,Ai,Ac]
  by_cases h64:i<all.length
  ·rw[Ak zq0,A0,Ak zq0,A8,w64 (n:=(i:Int)+64) zq0,Ak zq0,A8,Ak zq0,A8]
   have e:(all.take ((i:Int)+64).toNat).drop ((i:Int)).toNat=(all.drop i).take 64:=by
    rw[show((i:Int)+64).toNat=i+64 by omega,Int.toNat_natCast,List.drop_take,Nat.add_sub_cancel_left]
   rw[e,A0s _ _ hh zq1,Ag]
   simp only
   have hc:=Wy h ((all.drop i).take 64) hh zq1
   rw[Tk (b:=all.drop i) zq1,List.drop_drop,show(i:Int)+64=((i+64:Nat):Int) by omega]
   exact ih (i+64) _ zq0 zq0 zq0 zq0
  ·rw[Bh zq0,Am,J3 zq1]
theorem Au4 (m:Int) (j:Nat) (h0:0≤m) (h1:m<4294967296) (hj:4≤j) (hj2:j≤7):byt m j=((0:Int),()):=by
 have e:Int.fdiv m (2^(min (8*j) IntKind.i64.bits))=0:=by
  have hp:(4294967296:Int)≤2^(min (8*j) IntKind.i64.bits):=by
   have:j=4∨j=5∨j=6∨j=7:=by omega
   rcases this with rfl|rfl|rfl|rfl<;>decide
  rw[Int.fdiv_eq_ediv_of_nonneg _ zq0]
  exact Int.ediv_eq_zero_of_lt h0 zq0
 unfold byt
 rw[e];rfl
def Aay (n:Nat):Nat:=(64-(n+9)%64)%64
def Rx (n:Nat):List YB:=(((128:Int),())::List.replicate (Aay n) ((0:Int),()))++([((0:Int),()),((0:Int),())]++Ft (8*(n:Int)) 6 6)
theorem Au5 (n:Nat):(Rx n).length=Aay n+9:=by simp[Rx,Gz]
theorem Ay6 (n:Nat) (h:n≤1048576):Ay Lv ((n:Int),[((128:Int),())],())=some ((n:Int),((128:Int),())::List.replicate (Aay n) ((0:Int),()),()):=by
 have hk:Aay n=(64-(n+9)%64)%64:=rfl
 refine Cn (B:=Lv) (Aay n) (fun i=>((n:Int),((128:Int),())::List.replicate i ((0:Int),()),())) _ (fun i hi=>?_) ?_
 ·unfold Lv
  simp only[Ae,Aj,Ac,List.length_cons,List.length_replicate]
  rw[w64 (n:=(n:Int)+((i+1:Nat):Int)) zq0,w64 zq0,Ak zq0,A8,Fg zq1,Ak zq1,A8,List.cons_append,←List.replicate_succ']
 ·unfold Lv
  simp only[Ae,Aj,Ac,List.length_cons,List.length_replicate]
  rw[w64 (n:=(n:Int)+((Aay n+1:Nat):Int)) zq0,w64 zq0,Ak zq0,A8,C4 zq1]
theorem A8w (n:Nat) (h:n≤1048576):Apt ((n:Int),())=some (Rx n,()):=by
 have hk:Aay n<64:=Nat.mod_lt _ zq0
 unfold Apt Aps
 simp only[Ae,Aj,Ai,Ac,Ch,Ag]
 rw[C4 (by simp[inR];omega),Ay6 n h,Ag,Ak zq1,A8,w64 zq0,Ay4 _ _ zq1,Ag]
 unfold Rx
 simp
theorem A8x (n:Nat) (h:n≤1048576):Apj ((n:Int),())=some (Rx n,()):=by
 have hk:Aay n<64:=Nat.mod_lt _ zq0
 unfold Apj Api
 simp only[Ae,Aj,Ai,Ac,Ag]
 rw[Bh zq0,Am,Bh zq0,Am,show Agq=Lv from rfl,Ay6 n h,Ag,Rv _ _ zq1,Ag,Rv _ _ (by simp[Gz];omega),Ag,w64 zq0]
 unfold Rx
 have e0:Ft 0 4 4=[((0:Int),()),((0:Int),()),((0:Int),()),((0:Int),())]:=by
  unfold Ft
  simp only[show List.range 4=[0,1,2,3]from rfl,List.map]
  rfl
 have e6:Ft (8*(n:Int)) 6 6=[((0:Int),()),((0:Int),())]++Ft (8*(n:Int)) 4 4:=by
  have a:=Au4 (8*(n:Int)) 5 zq0 zq0 zq0 zq0
  have b:=Au4 (8*(n:Int)) 4 zq0 zq0 zq0 zq0
  unfold Ft
  simp only[show List.range 4=[0,1,2,3]from rfl,show List.range 6=[0,1,2,3,4,5]from rfl,List.map]
  rw[show 6-1-0=5 from rfl,show 6-1-1=4 from rfl,a,b]
  rfl
 rw[e0,e6]
 simp
def Ry (l:List YI):List YB:=l.flatMap fun x=>Ft x.1 4 4
theorem Aey (l:List YI):(Ry l).length=4*l.length:=by
 unfold Ry
 induction l with
 |nil=>rfl
 |cons x r ih=>simp only[List.flatMap_cons,List.length_append,Gz,ih,List.length_cons];omega
theorem Ar2 (l:List YI) (x:YI):Ry (l++[x])=Ry l++Ft x.1 4 4:=by simp[Ry]
theorem Ax4 (l:List YI) (h:l.length≤1048576):T9 (l,())=some (Ry l,()):=by
 have hr:=Cn (B:=Gq) l.length (fun i=>(Ry (l.take i),l,(l.length:Int),(i:Int),())) (Ry l,())
  (fun i hi=>by
   have hx:=List.getElem?_eq_getElem hi
   unfold Gq
   simp only[Ae,Ai,Ac,Ep hi,A0,Ca hx,Ag]
   rw[Ab4 _ _ (by rw[Aey];simp;omega),Ag,w64 zq0,←Fd hx,Ar2]
   rfl)
  (by unfold Gq;simp only[Ae,Ac,Er,Am,List.take_length])
 unfold T9 T8
 simp only[Ai,Ac]
 rw[show Ay Gq ([],l,(l.length:Int),(0:Int),())=_ from hr]
 rfl
theorem A6q (l:List YI) (h:l.length=8):Ags (l,())=some (Ry l,()):=by
 have hr:=Cn (B:=K5) 8 (fun i=>(l,Ry (l.take i),(i:Int),())) (Ry l,())
  (fun i hi=>by
   have hx:=List.getElem?_eq_getElem (show i<l.length by omega)
   unfold K5
   simp only[Ae,Ai,Ac]
   rw[Ak zq0,A0,Ca hx,Ag,Rv _ _ (by rw[Aey];simp;omega),Ag,w64 zq0,←Fd hx,Ar2]
   rfl)
  (by unfold K5;simp only[Ae,Ac];rw[Bh zq0,Am,←h,List.take_length])
 unfold Ags Agr
 simp only[Ai,Ac]
 rw[show Ay K5 (l,[],(0:Int),())=_ from hr]
 rfl
def Ee:List YI:=[((1779033703:Int),()),((3144134277:Int),()),((1013904242:Int),()),((2773480762:Int),()),((1359893119:Int),()),((2600822924:Int),()),((528734635:Int),()),((1541459225:Int),())]
theorem A2y:Ed Ee=true:=by decide
def Ah9 (h:J8):Bool:=(Ed h.1 && ((h.1.length:Int)==8)) && (inR h.2.2.1 0 1048576 && ((h.2.2.1%64)==(h.2.1.length:Int)))
theorem Au6 (h:J8) (hl:h.1.length≤4294967296):Ur h=some (Ah9 h,()):=by
 unfold Ur Adw Ah9
 simp only[Ae,Aj,Ai,Ac,Ch,Ag]
 rw[Aet _ _ hl,Ag]
 cases (Ed h.1 && ((h.1.length:Int)==8))with
 |false=>rfl
 |true=>
  cases hn:inR h.2.2.1 0 1048576 with
  |false=>rfl
  |true=>
   have:=Bl.1 hn
   simp only[A0]
   rw[Ak zq0,A8]
   simp
def sha (b:List YB):List YB:=if b.length≤1048576 then Ry (Fu Ee (b++Rx b.length)).1 else []
theorem Ay7 (b:List YB):(sha b).length=32∨(sha b).length=0:=by
 unfold sha
 split
 ·left
  rw[Aey,(Ab5 _ Ee _ (Nat.le_refl _) zq4).2.1];rfl
 ·right;rfl
theorem A0t (b:List YB):Abh (b,())=some (sha b,()):=by
 unfold Abh Apl sha
 simp only[Ae,Aj,Ai,Ac,List.nil_append,List.length_nil,Nat.zero_add]
 by_cases h:b.length≤1048576
 ·have hp:=Au5 b.length
  have hk:Aay b.length=(64-(b.length+9)%64)%64:=rfl
  have hl:=A2x (b++Rx b.length) zq1 (b++Rx b.length).length 0 Ee zq0 zq0 zq1 zq4
  rw[List.drop_zero]at hl
  rw[Bh zq0,Am,Ak zq0,A8,A8x _ h,Ag,Ak zq1,A8,show Arf=some (Ee,())from rfl,Ag]
  rw[show Ay Ow (b++Rx b.length,Ee,(0:Int),())=_ from hl,Ag]
  rw[A6q _ ((Ab5 _ Ee _ (Nat.le_refl _) zq4).2.1),if_pos h]
  rfl
 ·rw[Ak zq0,A0,if_neg h]
theorem A0u (b:List YB) (hb:b.length≤4294967296):Abj (b,())=some (sha b,()):=by
 unfold Abj Apu sha
 simp only[Ae,Ai,Ac]
 by_cases h:b.length≤1048576
 ·have hp:=Au5 b.length
  have hk:Aay b.length=(64-(b.length+9)%64)%64:=rfl
  have hc:=Ab5 _ Ee b (Nat.le_refl _) zq4
  have h8:Ee.length=8:=rfl
  have hc21:=hc.2.1
  have hc1:=hc.1
  have e1:Z8 (Ee,[],0,()) (b,())=some ((Fu Ee b).1,(Fu Ee b).2,(b.length:Int),()):=by
   unfold Z8 Z7
   simp only[Ae,Aj,Ai,Ac,List.nil_append,List.length_nil,Nat.zero_add]
   rw[Au6 _ zq4,Ag,show Ah9 (Ee,[],0,())=true by decide]
   simp only[Bool.not_true,Am]
   rw[w64 (n:=1048576-0) zq0,Bh zq0,Am,Kh _ (by simp[cat];omega) zq3,Ag,show cat [([],()),(b,())]=b by simp[cat],Agh _ _ zq4 zq0,Ag]
   simp only
   rw[Ak zq0,A8,Cu _ zq2,Ag,w64 zq0]
   simp
  have e2:Aaa ((Fu Ee b).1,(Fu Ee b).2,(b.length:Int),())=some (Ry (Fu Ee (b++Rx b.length)).1,()):=by
   unfold Aaa Z9
   simp only[Ae,Aj,Ai,Ac]
   rw[Au6 _ (by dsimp only;rw[hc.2.1];decide),Ag]
   have ok:Ah9 ((Fu Ee b).1,(Fu Ee b).2,(b.length:Int),())=true:=by
    unfold Ah9
    simp only[hc.2.2 A2y,hc.2.1,Bool.and_eq_true]
    refine⟨by decide,Bl.2 zq0,?_⟩
    rw[hc.1];simp
   rw[ok]
   simp only[Bool.not_true,Am]
   rw[A8w _ h,Ag,Kh _ (by simp[cat];omega) zq3,Ag,show cat [((Fu Ee b).2,()),(Rx b.length,())]=(Fu Ee b).2++Rx b.length by simp[cat],Agh _ _ (by rw[hc.2.1];decide) zq1,Ag,←A42 _ _ _ _ (Nat.le_refl _)]
   simp only
   rw[Ax4 _ (by rw[(Ab5 _ Ee _ (Nat.le_refl _) zq4).2.1];decide)]
   rfl
  rw[Bh zq0,Am,show Aj2=some (Ee,[],0,())from rfl,Ag,e1,Ag,e2,Ag,if_pos h]
 ·rw[Ak zq0,A0,if_neg h]
end
end Go.Proofs.YtmhhajdeafijmaaGreat
