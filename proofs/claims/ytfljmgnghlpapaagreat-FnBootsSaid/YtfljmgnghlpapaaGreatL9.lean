/-
  That the program and the reference answer alike, in plain terms, and that the laws answer true.
-/
import Derived.Test.YtfljmgnghlpapaaGreatL8
namespace Go.Proofs.YtfljmgnghlpapaaGreat
open Go.RowKit
set_option linter.unusedVariables false
set_option linter.unusedSimpArgs false
set_option maxHeartbeats 4000000
noncomputable section
def Ft (h:List YI) (b:List YB):List YI×List YB:=if 64≤b.length then Ft (Gw h (b.take 64)) (b.drop 64)else(h,b)
termination_by b.length
decreasing_by simp;omega
theorem Tz {h:List YI} {b:List YB} (hb:64≤b.length):Ft h b=Ft (Gw h (b.take 64)) (b.drop 64):=by rw[Ft,if_pos hb]
theorem Jv {h:List YI} {b:List YB} (hb: ¬64≤b.length):Ft h b=(h,b):=by rw[Ft,if_neg hb]
theorem Bdd: ∀(n:Nat) (h:List YI) (b p:List YB),b.length≤n→Ft h (b++p)=Ft (Ft h b).1 ((Ft h b).2++p):=by
 intro n
 induction n with
 |zero=>intro h b p hn;rw[Jv (b:=b) zq0]
 |succ n ih=>
  intro h b p hn
  by_cases hb:64≤b.length
  ·rw[Tz (b:=b) hb,Tz (b:=b++p) zq1,List.take_append_of_le_length hb,List.drop_append_of_le_length hb]
   exact ih _ _ _ zq1
  ·rw[Jv (b:=b) hb]
theorem Aeh: ∀(n:Nat) (h:List YI) (b:List YB),b.length≤n→h.length≤1073741824→(Ft h b).2.length=b.length%64∧(Ft h b).1.length=h.length∧(Ei h=true→Ei (Ft h b).1=true):=by
 intro n
 induction n with
 |zero=>intro h b hn hh;rw[Jv zq0];exact⟨by simp;omega,rfl,id⟩
 |succ n ih=>
  intro h b hn hh
  by_cases hb:64≤b.length
  ·rw[Tz hb]
   have hc:=X6 h (b.take 64) hh zq1
   obtain⟨h1,h2,h3⟩:=ih (Gw h (b.take 64)) (b.drop 64) zq1 zq0
   refine⟨?_,by omega,fun hw=>h3 (hc.2 hw)⟩
   rw[h1,List.length_drop];omega
  ·rw[Jv hb];exact⟨by simp only;omega,rfl,id⟩
theorem Ajs (h:List YI) (b:List YB) (hh:h.length≤1073741824) (hb:b.length≤4294967296):K5 (h,()) (b,())=some (((Ft h b).1,()),((Ft h b).2,())):=by
 have key: ∀(n:Nat) (h:List YI) (b:List YB),b.length≤n→h.length≤1073741824→b.length≤4294967296→As Et (h,b,())=some ((Ft h b).1,(Ft h b).2,()):=by
  intro n
  induction n with
  |zero=>
   intro h b hn hh hb
   rw[Jv zq0,Db]
   unfold Et
   simp only[Ac,Al,Ae,Ab]
   rw[Bj zq0,Au]
  |succ n ih=>
   intro h b hn hh hb
   rw[Db]
   by_cases h64:64≤b.length
   ·have hB:Et (h,b,())=some (.inl (Gw h (b.take 64),b.drop 64,())):=by
     unfold Et
     simp only[Ac,Al,Ae,Ab]
     rw[An zq0,A4,An zq0]
     simp only[A8,show(64:Int).toNat=64 from rfl,show(0:Int).toNat=0 from rfl,List.drop_zero,Int.toNat_natCast,List.take_length]
     rw[A78 _ _ hh zq1,Ai]
    have hc:=X6 h (b.take 64) hh zq1
    rw[hB,Tz h64,←ih (Gw h (b.take 64)) (b.drop 64) zq1 zq0 zq1]
   ·unfold Et
    simp only[Ac,Al,Ae,Ab]
    rw[Bj zq0,Au,Jv h64]
 unfold K5 P3
 simp only[Ae,Ab]
 rw[key _ h b (Nat.le_refl _) hh hb]
 rfl
theorem Ba3 (all:List YB) (ha:all.length≤4294967296): ∀(n i:Nat) (h:List YI),all.length-i≤n→i≤all.length→(all.length-i)%64=0→h.length≤1073741824→As O8 (all,h,(i:Int),())=some ((Ft h (all.drop i)).1,()):=by
 intro n
 induction n with
 |zero=>
  intro i h hn hi hm hh
  rw[Jv zq1,Db]
  unfold O8
  simp only[Ac,Al,Ae,Ab]
  rw[Bj zq0,Au]
 |succ n ih=>
  intro i h hn hi hm hh
  rw[Db]
  unfold O8
  simp only[Ac,Al,Ae,Ab]
  by_cases h64:i<all.length
  ·rw[An zq0,A4,An zq0,A8,w64 (n:=(i:Int)+64) zq0,An zq0,A8,An zq0,A8]
   have e:(all.take ((i:Int)+64).toNat).drop ((i:Int)).toNat=(all.drop i).take 64:=by
    rw[show((i:Int)+64).toNat=i+64 by omega,Int.toNat_natCast,List.drop_take,Nat.add_sub_cancel_left]
   rw[e,A79 _ _ hh zq1,Ai]
   simp only
   have hc:=X6 h ((all.drop i).take 64) hh zq1
   rw[Tz (b:=all.drop i) zq1,List.drop_drop,show(i:Int)+64=((i+64:Nat):Int) by omega]
   exact ih (i+64) _ zq0 zq0 zq0 zq0
  ·rw[Bj zq0,Au,Jv zq1]
theorem A2b (m:Int) (j:Nat) (h0:0≤m) (h1:m<4294967296) (hj:4≤j) (hj2:j≤7):byt m j=((0:Int),()):=by
 have e:Int.fdiv m (2^(min (8*j) IntKind.i64.bits))=0:=by
  have hp:(4294967296:Int)≤2^(min (8*j) IntKind.i64.bits):=by
   have:j=4∨j=5∨j=6∨j=7:=by omega
   rcases this with rfl|rfl|rfl|rfl<;>decide
  rw[Int.fdiv_eq_ediv_of_nonneg _ zq0]
  exact Int.ediv_eq_zero_of_lt h0 zq0
 unfold byt
 rw[e];rfl
def Adb (n:Nat):Nat:=(64-(n+9)%64)%64
def Ry (n:Nat):List YB:=(((128:Int),())::List.replicate (Adb n) ((0:Int),()))++([((0:Int),()),((0:Int),())]++Eu (8*(n:Int)) 6 6)
theorem A2c (n:Nat):(Ry n).length=Adb n+9:=by simp[Ry,E7]
theorem A6m (n:Nat) (h:n≤1048576):As Lr ((n:Int),[((128:Int),())],())=some ((n:Int),((128:Int),())::List.replicate (Adb n) ((0:Int),()),()):=by
 have hk:Adb n=(64-(n+9)%64)%64:=rfl
 refine B8 (B:=Lr) (Adb n) (fun i=>((n:Int),((128:Int),())::List.replicate i ((0:Int),()),())) _ (fun i hi=>?_) ?_
 ·unfold Lr
  simp only[Ac,Al,Ab,List.length_cons,List.length_replicate]
  rw[w64 (n:=(n:Int)+((i+1:Nat):Int)) zq0,w64 zq0,An zq0,A8,Fu zq1,An zq1,A8,List.cons_append,←List.replicate_succ']
 ·unfold Lr
  simp only[Ac,Al,Ab,List.length_cons,List.length_replicate]
  rw[w64 (n:=(n:Int)+((Adb n+1:Nat):Int)) zq0,w64 zq0,An zq0,A8,Em zq1]
theorem Bhq (n:Nat) (h:n≤1048576):Av1 ((n:Int),())=some (Ry n,()):=by
 have hk:Adb n<64:=Nat.mod_lt _ zq0
 unfold Av1 Avq
 simp only[Ac,Al,Ae,Ab,Bw,Ai]
 rw[Em (by simp[inR];omega),A6m n h,Ai,An zq1,A8,w64 zq0,Be9 _ _ zq1,Ai]
 unfold Ry
 simp
theorem Bhr (n:Nat) (h:n≤1048576):Avz ((n:Int),())=some (Ry n,()):=by
 have hk:Adb n<64:=Nat.mod_lt _ zq0
 unfold Avz Au5
 simp only[Ac,Al,Ae,Ab,Ai]
 rw[Bj zq0,Au,Bj zq0,Au,show Aj2=Lr from rfl,A6m n h,Ai,Rw _ _ zq1,Ai,Rw _ _ (by simp[E7];omega),Ai,w64 zq0]
 unfold Ry
 have e0:Eu 0 4 4=[((0:Int),()),((0:Int),()),((0:Int),()),((0:Int),())]:=by
  unfold Eu
  simp only[show List.range 4=[0,1,2,3]from rfl,List.map]
  rfl
 have e6:Eu (8*(n:Int)) 6 6=[((0:Int),()),((0:Int),())]++Eu (8*(n:Int)) 4 4:=by
  have a:=A2b (8*(n:Int)) 5 zq0 zq0 zq0 zq0
  have b:=A2b (8*(n:Int)) 4 zq0 zq0 zq0 zq0
  unfold Eu
  simp only[show List.range 4=[0,1,2,3]from rfl,show List.range 6=[0,1,2,3,4,5]from rfl,List.map]
  rw[show 6-1-0=5 from rfl,show 6-1-1=4 from rfl,a,b]
  rfl
 rw[e0,e6]
 simp
def Oz (l:List YI):List YB:=l.flatMap fun x=>Eu x.1 4 4
theorem Ah3 (l:List YI):(Oz l).length=4*l.length:=by
 unfold Oz
 induction l with
 |nil=>rfl
 |cons x r ih=>simp only[List.flatMap_cons,List.length_append,E7,ih,List.length_cons];omega
theorem Ayc (l:List YI) (x:YI):Oz (l++[x])=Oz l++Eu x.1 4 4:=by simp[Oz]
theorem A5m (l:List YI) (h:l.length≤1048576):Uy (l,())=some (Oz l,()):=by
 have hr:=B8 (B:=Gp) l.length (fun i=>(Oz (l.take i),l,(l.length:Int),(i:Int),())) (Oz l,())
  (fun i hi=>by
   have hx:=List.getElem?_eq_getElem hi
   unfold Gp
   simp only[Ac,Ae,Ab,By hi,A4,Bk hx,Ai]
   rw[Anz _ _ (by rw[Ah3];simp;omega),Ai,w64 zq0,←Dg hx,Ayc]
   rfl)
  (by unfold Gp;simp only[Ac,Ab,Bz,Au,List.take_length])
 unfold Uy Um
 simp only[Ae,Ab]
 rw[show As Gp ([],l,(l.length:Int),(0:Int),())=_ from hr]
 rfl
theorem Bfb (l:List YI) (h:l.length=8):Ama (l,())=some (Oz l,()):=by
 have hr:=B8 (B:=Kp) 8 (fun i=>(l,Oz (l.take i),(i:Int),())) (Oz l,())
  (fun i hi=>by
   have hx:=List.getElem?_eq_getElem (show i<l.length by omega)
   unfold Kp
   simp only[Ac,Ae,Ab]
   rw[An zq0,A4,Bk hx,Ai,Rw _ _ (by rw[Ah3];simp;omega),Ai,w64 zq0,←Dg hx,Ayc]
   rfl)
  (by unfold Kp;simp only[Ac,Ab];rw[Bj zq0,Au,←h,List.take_length])
 unfold Ama Aj5
 simp only[Ae,Ab]
 rw[show As Kp (l,[],(0:Int),())=_ from hr]
 rfl
def Ej:List YI:=[((1779033703:Int),()),((3144134277:Int),()),((1013904242:Int),()),((2773480762:Int),()),((1359893119:Int),()),((2600822924:Int),()),((528734635:Int),()),((1541459225:Int),())]
theorem Ba4:Ei Ej=true:=by decide
def Amr (h:J4):Bool:=(Ei h.1 && ((h.1.length:Int)==8)) && (inR h.2.2.1 0 1048576 && ((h.2.2.1%64)==(h.2.1.length:Int)))
theorem A2d (h:J4) (hl:h.1.length≤4294967296):Vo h=some (Amr h,()):=by
 unfold Vo Ago Amr
 simp only[Ac,Al,Ae,Ab,Bw,Ai]
 rw[Ahx _ _ hl,Ai]
 cases (Ei h.1 && ((h.1.length:Int)==8))with
 |false=>rfl
 |true=>
  cases hn:inR h.2.2.1 0 1048576 with
  |false=>rfl
  |true=>
   have:=Cu.1 hn
   simp only[A4]
   rw[An zq0,A8]
   simp
def sha (b:List YB):List YB:=if b.length≤1048576 then Oz (Ft Ej (b++Ry b.length)).1 else []
theorem A6n (b:List YB):(sha b).length=32∨(sha b).length=0:=by
 unfold sha
 split
 ·left
  rw[Ah3,(Aeh _ Ej _ (Nat.le_refl _) zq4).2.1];rfl
 ·right;rfl
theorem A8a (b:List YB):Aee (b,())=some (sha b,()):=by
 unfold Aee Au9 sha
 simp only[Ac,Al,Ae,Ab,List.nil_append,List.length_nil,Nat.zero_add]
 by_cases h:b.length≤1048576
 ·have hp:=A2c b.length
  have hk:Adb b.length=(64-(b.length+9)%64)%64:=rfl
  have hl:=Ba3 (b++Ry b.length) zq1 (b++Ry b.length).length 0 Ej zq0 zq0 zq1 zq4
  rw[List.drop_zero]at hl
  rw[Bj zq0,Au,An zq0,A8,Bhr _ h,Ai,An zq1,A8,show Ax1=some (Ej,())from rfl,Ai]
  rw[show As O8 (b++Ry b.length,Ej,(0:Int),())=_ from hl,Ai]
  rw[Bfb _ ((Aeh _ Ej _ (Nat.le_refl _) zq4).2.1),if_pos h]
  rfl
 ·rw[An zq0,A4,if_neg h]
theorem A8b (b:List YB) (hb:b.length≤4294967296):Aef (b,())=some (sha b,()):=by
 unfold Aef Avt sha
 simp only[Ac,Ae,Ab]
 by_cases h:b.length≤1048576
 ·have hp:=A2c b.length
  have hk:Adb b.length=(64-(b.length+9)%64)%64:=rfl
  have hc:=Aeh _ Ej b (Nat.le_refl _) zq4
  have h8:Ej.length=8:=rfl
  have hc21:=hc.2.1
  have hc1:=hc.1
  have e1:Ac3 (Ej,[],0,()) (b,())=some ((Ft Ej b).1,(Ft Ej b).2,(b.length:Int),()):=by
   unfold Ac3 Ace
   simp only[Ac,Al,Ae,Ab,List.nil_append,List.length_nil,Nat.zero_add]
   rw[A2d _ zq4,Ai,show Amr (Ej,[],0,())=true by decide]
   simp only[Bool.not_true,Au]
   rw[w64 (n:=1048576-0) zq0,Bj zq0,Au,Rx _ (by simp[cat];omega) zq3,Ai,show cat [([],()),(b,())]=b by simp[cat],Ajs _ _ zq4 zq0,Ai]
   simp only
   rw[An zq0,A8,Dv _ zq2,Ai,w64 zq0]
   simp
  have e2:Ac4 ((Ft Ej b).1,(Ft Ej b).2,(b.length:Int),())=some (Oz (Ft Ej (b++Ry b.length)).1,()):=by
   unfold Ac4 Acf
   simp only[Ac,Al,Ae,Ab]
   rw[A2d _ (by dsimp only;rw[hc.2.1];decide),Ai]
   have ok:Amr ((Ft Ej b).1,(Ft Ej b).2,(b.length:Int),())=true:=by
    unfold Amr
    simp only[hc.2.2 Ba4,hc.2.1,Bool.and_eq_true]
    refine⟨by decide,Cu.2 zq0,?_⟩
    rw[hc.1];simp
   rw[ok]
   simp only[Bool.not_true,Au]
   rw[Bhq _ h,Ai,Rx _ (by simp[cat];omega) zq3,Ai,show cat [((Ft Ej b).2,()),(Ry b.length,())]=(Ft Ej b).2++Ry b.length by simp[cat],Ajs _ _ (by rw[hc.2.1];decide) zq1,Ai,←Bdd _ _ _ _ (Nat.le_refl _)]
   simp only
   rw[A5m _ (by rw[(Aeh _ Ej _ (Nat.le_refl _) zq4).2.1];decide)]
   rfl
  rw[Bj zq0,Au,show Apn=some (Ej,[],0,())from rfl,Ai,e1,Ai,e2,Ai,if_pos h]
 ·rw[An zq0,A4,if_neg h]
end
end Go.Proofs.YtfljmgnghlpapaaGreat
