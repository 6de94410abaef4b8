/-
  That the program and the reference answer alike, in plain terms, and that the laws answer true.
-/
import Derived.Test.YtmhhajdeafijmaaL8
namespace Go.Proofs.Ytmhhajdeafijmaa
open Go.RowKit
set_option linter.unusedVariables false
set_option linter.unusedSimpArgs false
set_option maxHeartbeats 4000000
noncomputable section
def C5 (h:List YI) (b:List YB):List YI×List YB:=if 64≤b.length then C5 (Dj h (b.take 64)) (b.drop 64)else(h,b)
termination_by b.length
decreasing_by simp;omega
theorem Jv {h:List YI} {b:List YB} (hb:64≤b.length):C5 h b=C5 (Dj h (b.take 64)) (b.drop 64):=by rw[C5,if_pos hb]
theorem E5 {h:List YI} {b:List YB} (hb: ¬64≤b.length):C5 h b=(h,b):=by rw[C5,if_neg hb]
theorem Aiu: ∀(n:Nat) (h:List YI) (b p:List YB),b.length≤n→C5 h (b++p)=C5 (C5 h b).1 ((C5 h b).2++p):=by
 intro n
 induction n with
 |zero=>intro h b p hn;rw[E5 (b:=b) zq0]
 |succ n ih=>
  intro h b p hn
  by_cases hb:64≤b.length
  ·rw[Jv (b:=b) hb,Jv (b:=b++p) zq3,List.take_append_of_le_length hb,List.drop_append_of_le_length hb]
   exact ih _ _ _ zq3
  ·rw[E5 (b:=b) hb]
theorem N6: ∀(n:Nat) (h:List YI) (b:List YB),b.length≤n→h.length≤1073741824→(C5 h b).2.length=b.length%64∧(C5 h b).1.length=h.length∧(Cu h=true→Cu (C5 h b).1=true):=by
 intro n
 induction n with
 |zero=>intro h b hn hh;rw[E5 zq0];exact⟨by simp;omega,rfl,id⟩
 |succ n ih=>
  intro h b hn hh
  by_cases hb:64≤b.length
  ·rw[Jv hb]
   have hc:=Lh h (b.take 64) hh zq3
   obtain⟨h1,h2,h3⟩:=ih (Dj h (b.take 64)) (b.drop 64) zq3 zq0
   refine⟨?_,by omega,fun hw=>h3 (hc.2 hw)⟩
   rw[h1,List.length_drop];omega
  ·rw[E5 hb];exact⟨by simp only;omega,rfl,id⟩
theorem Qv (h:List YI) (b:List YB) (hh:h.length≤1073741824) (hb:b.length≤4294967296):Fs (h,()) (b,())=some (((C5 h b).1,()),((C5 h b).2,())):=by
 have key: ∀(n:Nat) (h:List YI) (b:List YB),b.length≤n→h.length≤1073741824→b.length≤4294967296→Al Ca (h,b,())=some ((C5 h b).1,(C5 h b).2,()):=by
  intro n
  induction n with
  |zero=>
   intro h b hn hh hb
   rw[E5 zq0,Bi]
   unfold Ca
   simp only[Ad,Aj,Af,Ac]
   rw[Aq zq0,Am]
  |succ n ih=>
   intro h b hn hh hb
   rw[Bi]
   by_cases h64:64≤b.length
   ·have hB:Ca (h,b,())=some (.inl (Dj h (b.take 64),b.drop 64,())):=by
     unfold Ca
     simp only[Ad,Aj,Af,Ac]
     rw[Ah zq0,Ay,Ah zq0]
     simp only[Aw,show(64:Int).toNat=64 from rfl,show(0:Int).toNat=0 from rfl,List.drop_zero,Int.toNat_natCast,List.take_length]
     rw[Afq _ _ hh zq3,Ae]
    have hc:=Lh h (b.take 64) hh zq3
    rw[hB,Jv h64,←ih (Dj h (b.take 64)) (b.drop 64) zq3 zq0 zq3]
   ·unfold Ca
    simp only[Ad,Aj,Af,Ac]
    rw[Aq zq0,Am,E5 h64]
 unfold Fs Id
 simp only[Af,Ac]
 rw[key _ h b (Nat.le_refl _) hh hb]
 rfl
theorem Ahi (all:List YB) (ha:all.length≤4294967296): ∀(n i:Nat) (h:List YI),all.length-i≤n→i≤all.length→(all.length-i)%64=0→h.length≤1073741824→Al Hu (all,h,(i:Int),())=some ((C5 h (all.drop i)).1,()):=by
 intro n
 induction n with
 |zero=>
  intro i h hn hi hm hh
  rw[E5 zq3,Bi]
  unfold Hu
  simp only[Ad,Aj,Af,Ac]
  rw[Aq zq0,Am]
 |succ n ih=>
  intro i h hn hi hm hh
  rw[Bi]
  unfold Hu
  simp only[Ad,Aj,Af,Ac]
  by_cases h64:i<all.length
  ·rw[Ah zq0,Ay,Ah zq0,Aw,w64 (n:=(i:Int)+64) zq0,Ah zq0,Aw,Ah zq0,Aw]
   have e:(all.take ((i:Int)+64).toNat).drop ((i:Int)).toNat=(all.drop i).take 64:=by
    rw[show((i:Int)+64).toNat=i+64 by omega,Int.toNat_natCast,List.drop_take,Nat.add_sub_cancel_left]
   rw[e,Afr _ _ hh zq3,Ae]
   simp only
   have hc:=Lh h ((all.drop i).take 64) hh zq3
   rw[Jv (b:=all.drop i) zq3,List.drop_drop,show(i:Int)+64=((i+64:Nat):Int) by omega]
   exact ih (i+64) _ zq0 zq0 zq0 zq0
  ·rw[Aq zq0,Am,E5 zq3]
theorem Abv (m:Int) (j:Nat) (h0:0≤m) (h1:m<4294967296) (hj:4≤j) (hj2:j≤7):byt m j=((0:Int),()):=by
 have e:Int.fdiv m (2^(min (8*j) IntKind.i64.bits))=0:=by
  have hp:(4294967296:Int)≤2^(min (8*j) IntKind.i64.bits):=by
   have:j=4∨j=5∨j=6∨j=7:=by omega
   rcases this with rfl|rfl|rfl|rfl<;>decide
  rw[Int.fdiv_eq_ediv_of_nonneg _ zq0]
  exact Int.ediv_eq_zero_of_lt h0 zq0
 unfold byt
 rw[e];rfl
def Nf (n:Nat):Nat:=(64-(n+9)%64)%64
def Ja (n:Nat):List YB:=(((128:Int),())::List.replicate (Nf n) ((0:Int),()))++([((0:Int),()),((0:Int),())]++Bm (8*(n:Int)) 6 6)
theorem Abw (n:Nat):(Ja n).length=Nf n+9:=by simp[Ja,Ei]
theorem Aej (n:Nat) (h:n≤1048576):Al Fx ((n:Int),[((128:Int),())],())=some ((n:Int),((128:Int),())::List.replicate (Nf n) ((0:Int),()),()):=by
 have hk:Nf n=(64-(n+9)%64)%64:=rfl
 refine By (B:=Fx) (Nf n) (fun i=>((n:Int),((128:Int),())::List.replicate i ((0:Int),()),())) _ (fun i hi=>?_) ?_
 ·unfold Fx
  simp only[Ad,Aj,Ac,List.length_cons,List.length_replicate]
  rw[w64 (n:=(n:Int)+((i+1:Nat):Int)) zq0,w64 zq0,Ah zq0,Aw,Sp zq3,Ah zq3,Aw,List.cons_append,←List.replicate_succ']
 ·unfold Fx
  simp only[Ad,Aj,Ac,List.length_cons,List.length_replicate]
  rw[w64 (n:=(n:Int)+((Nf n+1:Nat):Int)) zq0,w64 zq0,Ah zq0,Aw,Ki zq3]
theorem Alu (n:Nat) (h:n≤1048576):Wz ((n:Int),())=some (Ja n,()):=by
 have hk:Nf n<64:=Nat.mod_lt _ zq0
 unfold Wz Wy
 simp only[Ad,Aj,Af,Ac,Ej,Ae]
 rw[Ki (by simp[inR];omega),Aej n h,Ae,Ah zq3,Aw,w64 zq0,Sq _ _ zq3,Ae]
 unfold Ja
 simp
theorem Alv (n:Nat) (h:n≤1048576):W4 ((n:Int),())=some (Ja n,()):=by
 have hk:Nf n<64:=Nat.mod_lt _ zq0
 unfold W4 W3
 simp only[Ad,Aj,Af,Ac,Ae]
 rw[Aq zq0,Am,Aq zq0,Am,show Q6=Fx from rfl,Aej n h,Ae,N5 _ _ zq3,Ae,N5 _ _ (by simp[Ei];omega),Ae,w64 zq0]
 unfold Ja
 have e0:Bm 0 4 4=[((0:Int),()),((0:Int),()),((0:Int),()),((0:Int),())]:=by
  unfold Bm
  simp only[show List.range 4=[0,1,2,3]from rfl,List.map]
  rfl
 have e6:Bm (8*(n:Int)) 6 6=[((0:Int),()),((0:Int),())]++Bm (8*(n:Int)) 4 4:=by
  have a:=Abv (8*(n:Int)) 5 zq0 zq0 zq0 zq0
  have b:=Abv (8*(n:Int)) 4 zq0 zq0 zq0 zq0
  unfold Bm
  simp only[show List.range 4=[0,1,2,3]from rfl,show List.range 6=[0,1,2,3,4,5]from rfl,List.map]
  rw[show 6-1-0=5 from rfl,show 6-1-1=4 from rfl,a,b]
  rfl
 rw[e0,e6]
 simp
def Jb (l:List YI):List YB:=l.flatMap fun x=>Bm x.1 4 4
theorem Pu (l:List YI):(Jb l).length=4*l.length:=by
 unfold Jb
 induction l with
 |nil=>rfl
 |cons x r ih=>simp only[List.flatMap_cons,List.length_append,Ei,ih,List.length_cons];omega
theorem Zv (l:List YI) (x:YI):Jb (l++[x])=Jb l++Bm x.1 4 4:=by simp[Jb]
theorem Adw (l:List YI) (h:l.length≤1048576):J5 (l,())=some (Jb l,()):=by
 have hr:=By (B:=De) l.length (fun i=>(Jb (l.take i),l,(l.length:Int),(i:Int),())) (Jb l,())
  (fun i hi=>by
   have hx:=List.getElem?_eq_getElem hi
   unfold De
   simp only[Ad,Af,Ac,Iq hi,Ay,B8 hx,Ae]
   rw[I9 _ _ (by rw[Pu];simp;omega),Ae,w64 zq0,←E4 hx,Zv]
   rfl)
  (by unfold De;simp only[Ad,Ac,Le,Am,List.take_length])
 unfold J5 J4
 simp only[Af,Ac]
 rw[show Al De ([],l,(l.length:Int),(0:Int),())=_ from hr]
 rfl
theorem Aj1 (l:List YI) (h:l.length=8):Q8 (l,())=some (Jb l,()):=by
 have hr:=By (B:=Fo) 8 (fun i=>(l,Jb (l.take i),(i:Int),())) (Jb l,())
  (fun i hi=>by
   have hx:=List.getElem?_eq_getElem (show i<l.length by omega)
   unfold Fo
   simp only[Ad,Af,Ac]
   rw[Ah zq0,Ay,B8 hx,Ae,N5 _ _ (by rw[Pu];simp;omega),Ae,w64 zq0,←E4 hx,Zv]
   rfl)
  (by unfold Fo;simp only[Ad,Ac];rw[Aq zq0,Am,←h,List.take_length])
 unfold Q8 Q7
 simp only[Af,Ac]
 rw[show Al Fo (l,[],(0:Int),())=_ from hr]
 rfl
def Bz:List YI:=[((1779033703:Int),()),((3144134277:Int),()),((1013904242:Int),()),((2773480762:Int),()),((1359893119:Int),()),((2600822924:Int),()),((528734635:Int),()),((1541459225:Int),())]
theorem Ahj:Cu Bz=true:=by decide
def Ru (h:E8):Bool:=(Cu h.1 && ((h.1.length:Int)==8)) && (inR h.2.2.1 0 1048576 && ((h.2.2.1%64)==(h.2.1.length:Int)))
theorem Abx (h:E8) (hl:h.1.length≤4294967296):Ka h=some (Ru h,()):=by
 unfold Ka Ox Ru
 simp only[Ad,Aj,Af,Ac,Ej,Ae]
 rw[V0 _ _ hl,Ae]
 cases (Cu h.1 && ((h.1.length:Int)==8))with
 |false=>rfl
 |true=>
  cases hn:inR h.2.2.1 0 1048576 with
  |false=>rfl
  |true=>
   have:=Ep.1 hn
   simp only[Ay]
   rw[Ah zq0,Aw]
   simp
def sha (b:List YB):List YB:=if b.length≤1048576 then Jb (C5 Bz (b++Ja b.length)).1 else []
theorem Aek (b:List YB):(sha b).length=32∨(sha b).length=0:=by
 unfold sha
 split
 ·left
  rw[Pu,(N6 _ Bz _ (Nat.le_refl _) zq4).2.1];rfl
 ·right;rfl
theorem Afs (b:List YB):Ns (b,())=some (sha b,()):=by
 unfold Ns W6 sha
 simp only[Ad,Aj,Af,Ac,List.nil_append,List.length_nil,Nat.zero_add]
 by_cases h:b.length≤1048576
 ·have hp:=Abw b.length
  have hk:Nf b.length=(64-(b.length+9)%64)%64:=rfl
  have hl:=Ahi (b++Ja b.length) zq3 (b++Ja b.length).length 0 Bz zq0 zq0 zq3 zq4
  rw[List.drop_zero]at hl
  rw[Aq zq0,Am,Ah zq0,Aw,Alv _ h,Ae,Ah zq3,Aw,show Zh=some (Bz,())from rfl,Ae]
  rw[show Al Hu (b++Ja b.length,Bz,(0:Int),())=_ from hl,Ae]
  rw[Aj1 _ ((N6 _ Bz _ (Nat.le_refl _) zq4).2.1),if_pos h]
  rfl
 ·rw[Ah zq0,Ay,if_neg h]
theorem Aft (b:List YB) (hb:b.length≤4294967296):Np (b,())=some (sha b,()):=by
 unfold Np W0 sha
 simp only[Ad,Af,Ac]
 by_cases h:b.length≤1048576
 ·have hp:=Abw b.length
  have hk:Nf b.length=(64-(b.length+9)%64)%64:=rfl
  have hc:=N6 _ Bz b (Nat.le_refl _) zq4
  have h8:Bz.length=8:=rfl
  have hc21:=hc.2.1
  have hc1:=hc.1
  have e1:Mq (Bz,[],0,()) (b,())=some ((C5 Bz b).1,(C5 Bz b).2,(b.length:Int),()):=by
   unfold Mq Mp
   simp only[Ad,Aj,Af,Ac,List.nil_append,List.length_nil,Nat.zero_add]
   rw[Abx _ zq4,Ae,show Ru (Bz,[],0,())=true by decide]
   simp only[Bool.not_true,Am]
   rw[w64 (n:=1048576-0) zq0,Aq zq0,Am,Da _ (by simp[cat];omega) zq1,Ae,show cat [([],()),(b,())]=b by simp[cat],Qv _ _ zq4 zq0,Ae]
   simp only
   rw[Ah zq0,Aw,I8 _ zq5,Ae,w64 zq0]
   simp
  have e2:Ms ((C5 Bz b).1,(C5 Bz b).2,(b.length:Int),())=some (Jb (C5 Bz (b++Ja b.length)).1,()):=by
   unfold Ms Mr
   simp only[Ad,Aj,Af,Ac]
   rw[Abx _ (by dsimp only;rw[hc.2.1];decide),Ae]
   have ok:Ru ((C5 Bz b).1,(C5 Bz b).2,(b.length:Int),())=true:=by
    unfold Ru
    simp only[hc.2.2 Ahj,hc.2.1,Bool.and_eq_true]
    refine⟨by decide,Ep.2 zq0,?_⟩
    rw[hc.1];simp
   rw[ok]
   simp only[Bool.not_true,Am]
   rw[Alu _ h,Ae,Da _ (by simp[cat];omega) zq1,Ae,show cat [((C5 Bz b).2,()),(Ja b.length,())]=(C5 Bz b).2++Ja b.length by simp[cat],Qv _ _ (by rw[hc.2.1];decide) zq3,Ae,←Aiu _ _ _ _ (Nat.le_refl _)]
   simp only
   rw[Adw _ (by rw[(N6 _ Bz _ (Nat.le_refl _) zq4).2.1];decide)]
   rfl
  rw[Aq zq0,Am,show Ta=some (Bz,[],0,())from rfl,Ae,e1,Ae,e2,Ae,if_pos h]
 ·rw[Ah zq0,Ay,if_neg h]
end
end Go.Proofs.Ytmhhajdeafijmaa
