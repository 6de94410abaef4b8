/-
  That the program and the reference answer alike, in plain terms, and that the laws answer true.
-/
import Derived.Test.YtmhhajdeafijmaaGreatL8
namespace Go.Proofs.YtmhhajdeafijmaaGreat
open Go.RowKit
set_option linter.unusedVariables false
set_option linter.unusedSimpArgs false
set_option maxHeartbeats 4000000
noncomputable section
def Fp (h:List YI) (b:List YB):List YI×List YB:=if 64≤b.length then Fp (Gp h (b.take 64)) (b.drop 64)else(h,b)
termination_by b.length
decreasing_by simp;omega
theorem Ta {h:List YI} {b:List YB} (hb:64≤b.length):Fp h b=Fp (Gp h (b.take 64)) (b.drop 64):=by rw[Fp,if_pos hb]
theorem Jk {h:List YI} {b:List YB} (hb: ¬64≤b.length):Fp h b=(h,b):=by rw[Fp,if_neg hb]
theorem A8o: ∀(n:Nat) (h:List YI) (b p:List YB),b.length≤n→Fp h (b++p)=Fp (Fp h b).1 ((Fp h b).2++p):=by
 intro n
 induction n with
 |zero=>intro h b p hn;rw[Jk (b:=b) zq0]
 |succ n ih=>
  intro h b p hn
  by_cases hb:64≤b.length
  ·rw[Ta (b:=b) hb,Ta (b:=b++p) zq1,List.take_append_of_le_length hb,List.drop_append_of_le_length hb]
   exact ih _ _ _ zq1
  ·rw[Jk (b:=b) hb]
theorem Aff: ∀(n:Nat) (h:List YI) (b:List YB),b.length≤n→h.length≤1073741824→(Fp h b).2.length=b.length%64∧(Fp h b).1.length=h.length∧(D3 h=true→D3 (Fp h b).1=true):=by
 intro n
 induction n with
 |zero=>intro h b hn hh;rw[Jk zq0];exact⟨by simp;omega,rfl,id⟩
 |succ n ih=>
  intro h b hn hh
  by_cases hb:64≤b.length
  ·rw[Ta hb]
   have hc:=Aar h (b.take 64) hh zq1
   obtain⟨h1,h2,h3⟩:=ih (Gp h (b.take 64)) (b.drop 64) zq1 zq0
   refine⟨?_,by omega,fun hw=>h3 (hc.2 hw)⟩
   rw[h1,List.length_drop];omega
  ·rw[Jk hb];exact⟨by simp only;omega,rfl,id⟩
theorem Aju (h:List YI) (b:List YB) (hh:h.length≤1073741824) (hb:b.length≤4294967296):Kq (h,()) (b,())=some (((Fp h b).1,()),((Fp h b).2,())):=by
 have key: ∀(n:Nat) (h:List YI) (b:List YB),b.length≤n→h.length≤1073741824→b.length≤4294967296→Ay Eh (h,b,())=some ((Fp h b).1,(Fp h b).2,()):=by
  intro n
  induction n with
  |zero=>
   intro h b hn hh hb
   rw[Jk zq0,Ci]
   unfold Eh
   simp only[Ag,Ao,Ai,Ad]
   rw[A8 zq0,An]
  |succ n ih=>
   intro h b hn hh hb
   rw[Ci]
   by_cases h64:64≤b.length
   ·have hB:Eh (h,b,())=some (.inl (Gp h (b.take 64),b.drop 64,())):=by
     unfold Eh
     simp only[Ag,Ao,Ai,Ad]
     rw[Am zq0,Aw,Am zq0]
     simp only[A5,show(64:Int).toNat=64 from rfl,show(0:Int).toNat=0 from rfl,List.drop_zero,Int.toNat_natCast,List.take_length]
     rw[A4c _ _ hh zq1,Aj]
    have hc:=Aar h (b.take 64) hh zq1
    rw[hB,Ta h64,←ih (Gp h (b.take 64)) (b.drop 64) zq1 zq0 zq1]
   ·unfold Eh
    simp only[Ag,Ao,Ai,Ad]
    rw[A8 zq0,An,Jk h64]
 unfold Kq Pc
 simp only[Ai,Ad]
 rw[key _ h b (Nat.le_refl _) hh hb]
 rfl
theorem A6o (all:List YB) (ha:all.length≤4294967296): ∀(n i:Nat) (h:List YI),all.length-i≤n→i≤all.length→(all.length-i)%64=0→h.length≤1073741824→Ay Ob (all,h,(i:Int),())=some ((Fp h (all.drop i)).1,()):=by
 intro n
 induction n with
 |zero=>
  intro i h hn hi hm hh
  rw[Jk zq1,Ci]
  unfold Ob
  simp only[Ag,Ao,Ai,Ad]
  rw[A8 zq0,An]
 |succ n ih=>
  intro i h hn hi hm hh
  rw[Ci]
  unfold Ob
  simp only[Ag,Ao,Ai,Ad]
  by_cases h64:i<all.length
  ·rw[Am zq0,Aw,Am zq0,A5,w64 (n:=(i:Int)+64) zq0,Am zq0,A5,Am zq0,A5]
   have e:(all.take ((i:Int)+64).toNat).drop ((i:Int)).toNat=(all.drop i).take 64:=by
    rw[show((i:Int)+64).toNat=i+64 by omega,Int.toNat_natCast,List.drop_take,Nat.add_sub_cancel_left]
   rw[e,A4d _ _ hh zq1,Aj]
   simp only
   have hc:=Aar h ((all.drop i).take 64) hh zq1
   rw[Ta (b:=all.drop i) zq1,List.drop_drop,show(i:Int)+64=((i+64:Nat):Int) by omega]
   exact ih (i+64) _ zq0 zq0 zq0 zq0
  ·rw[A8 zq0,An,Jk zq1]
theorem Ay4 (m:Int) (j:Nat) (h0:0≤m) (h1:m<4294967296) (hj:4≤j) (hj2:j≤7):byt m j=((0:Int),()):=by
 have e:Int.fdiv m (2^(min (8*j) IntKind.i64.bits))=0:=by
  have hp:(4294967296:Int)≤2^(min (8*j) IntKind.i64.bits):=by
   have:j=4∨j=5∨j=6∨j=7:=by omega
   rcases this with rfl|rfl|rfl|rfl<;>decide
  rw[Int.fdiv_eq_ediv_of_nonneg _ zq0]
  exact Int.ediv_eq_zero_of_lt h0 zq0
 unfold byt
 rw[e];rfl
def Adv (n:Nat):Nat:=(64-(n+9)%64)%64
def Re (n:Nat):List YB:=(((128:Int),())::List.replicate (Adv n) ((0:Int),()))++([((0:Int),()),((0:Int),())]++E5 (8*(n:Int)) 6 6)
theorem Ay5 (n:Nat):(Re n).length=Adv n+9:=by simp[Re,Gn]
theorem A20 (n:Nat) (h:n≤1048576):Ay Lc ((n:Int),[((128:Int),())],())=some ((n:Int),((128:Int),())::List.replicate (Adv n) ((0:Int),()),()):=by
 have hk:Adv n=(64-(n+9)%64)%64:=rfl
 refine Cq (B:=Lc) (Adv n) (fun i=>((n:Int),((128:Int),())::List.replicate i ((0:Int),()),())) _ (fun i hi=>?_) ?_
 ·unfold Lc
  simp only[Ag,Ao,Ad,List.length_cons,List.length_replicate]
  rw[w64 (n:=(n:Int)+((i+1:Nat):Int)) zq0,w64 zq0,Am zq0,A5,Ej zq1,Am zq1,A5,List.cons_append,←List.replicate_succ']
 ·unfold Lc
  simp only[Ag,Ao,Ad,List.length_cons,List.length_replicate]
  rw[w64 (n:=(n:Int)+((Adv n+1:Nat):Int)) zq0,w64 zq0,Am zq0,A5,Cp zq1]
theorem Bc7 (n:Nat) (h:n≤1048576):At8 ((n:Int),())=some (Re n,()):=by
 have hk:Adv n<64:=Nat.mod_lt _ zq0
 unfold At8 Atz
 simp only[Ag,Ao,Ai,Ad,Br,Aj]
 rw[Cp zq5,A20 n h,Aj,Am zq1,A5,w64 zq0,A2x _ _ zq1,Aj]
 unfold Re
 simp
theorem Bc8 (n:Nat) (h:n≤1048576):At6 ((n:Int),())=some (Re n,()):=by
 have hk:Adv n<64:=Nat.mod_lt _ zq0
 unfold At6 Atl
 simp only[Ag,Ao,Ai,Ad,Aj]
 rw[A8 zq0,An,A8 zq0,An,show Aki=Lc from rfl,A20 n h,Aj,Rc _ _ zq1,Aj,Rc _ _ (by simp[Gn];omega),Aj,w64 zq0]
 unfold Re
 have e0:E5 0 4 4=[((0:Int),()),((0:Int),()),((0:Int),()),((0:Int),())]:=by
  unfold E5
  simp only[show List.range 4=[0,1,2,3]from rfl,List.map]
  rfl
 have e6:E5 (8*(n:Int)) 6 6=[((0:Int),()),((0:Int),())]++E5 (8*(n:Int)) 4 4:=by
  have a:=Ay4 (8*(n:Int)) 5 zq0 zq0 zq0 zq0
  have b:=Ay4 (8*(n:Int)) 4 zq0 zq0 zq0 zq0
  unfold E5
  simp only[show List.range 4=[0,1,2,3]from rfl,show List.range 6=[0,1,2,3,4,5]from rfl,List.map]
  rw[show 6-1-0=5 from rfl,show 6-1-1=4 from rfl,a,b]
  rfl
 rw[e0,e6]
 simp
def Rf (l:List YI):List YB:=l.flatMap fun x=>E5 x.1 4 4
theorem Aib (l:List YI):(Rf l).length=4*l.length:=by
 unfold Rf
 induction l with
 |nil=>rfl
 |cons x r ih=>simp only[List.flatMap_cons,List.length_append,Gn,ih,List.length_cons];omega
theorem Avw (l:List YI) (x:YI):Rf (l++[x])=Rf l++E5 x.1 4 4:=by simp[Rf]
theorem A1x (l:List YI) (h:l.length≤1048576):T6 (l,())=some (Rf l,()):=by
 have hr:=Cq (B:=Gf) l.length (fun i=>(Rf (l.take i),l,(l.length:Int),(i:Int),())) (Rf l,())
  (fun i hi=>by
   have hx:=List.getElem?_eq_getElem hi
   unfold Gf
   simp only[Ag,Ai,Ad,M6 hi,Aw,Dl hx,Aj]
   rw[Afe _ _ (by rw[Aib];simp;omega),Aj,w64 zq0,←G8 hx,Avw]
   rfl)
  (by unfold Gf;simp only[Ag,Ad,M7,An,List.take_length])
 unfold T6 T3
 simp only[Ai,Ad]
 rw[show Ay Gf ([],l,(l.length:Int),(0:Int),())=_ from hr]
 rfl
theorem Bak (l:List YI) (h:l.length=8):Ali (l,())=some (Rf l,()):=by
 have hr:=Cq (B:=Kg) 8 (fun i=>(l,Rf (l.take i),(i:Int),())) (Rf l,())
  (fun i hi=>by
   have hx:=List.getElem?_eq_getElem (show i<l.length by omega)
   unfold Kg
   simp only[Ag,Ai,Ad]
   rw[Am zq0,Aw,Dl hx,Aj,Rc _ _ (by rw[Aib];simp;omega),Aj,w64 zq0,←G8 hx,Avw]
   rfl)
  (by unfold Kg;simp only[Ag,Ad];rw[A8 zq0,An,←h,List.take_length])
 unfold Ali Akl
 simp only[Ai,Ad]
 rw[show Ay Kg (l,[],(0:Int),())=_ from hr]
 rfl
def D4:List YI:=[((1779033703:Int),()),((3144134277:Int),()),((1013904242:Int),()),((2773480762:Int),()),((1359893119:Int),()),((2600822924:Int),()),((528734635:Int),()),((1541459225:Int),())]
theorem A6p:D3 D4=true:=by decide
def Alx (h:Jr):Bool:=(D3 h.1 && ((h.1.length:Int)==8)) && (inR h.2.2.1 0 1048576 && ((h.2.2.1%64)==(h.2.1.length:Int)))
theorem Ay6 (h:Jr) (hl:h.1.length≤4294967296):Xc h=some (Alx h,()):=by
 unfold Xc Ahb Alx
 simp only[Ag,Ao,Ai,Ad,Br,Aj]
 rw[Ah7 _ _ hl,Aj]
 cases (D3 h.1 && ((h.1.length:Int)==8))with
 |false=>rfl
 |true=>
  cases hn:inR h.2.2.1 0 1048576 with
  |false=>rfl
  |true=>
   have:=A6.1 hn
   simp only[Aw]
   rw[Am zq0,A5]
   simp
def sha (b:List YB):List YB:=if b.length≤1048576 then Rf (Fp D4 (b++Re b.length)).1 else []
theorem A21 (b:List YB):(sha b).length=32∨(sha b).length=0:=by
 unfold sha
 split
 ·left
  rw[Aib,(Aff _ D4 _ (Nat.le_refl _) zq4).2.1];rfl
 ·right;rfl
theorem A4e (b:List YB):Ae6 (b,())=some (sha b,()):=by
 unfold Ae6 Atp sha
 simp only[Ag,Ao,Ai,Ad,List.nil_append,List.length_nil,Nat.zero_add]
 by_cases h:b.length≤1048576
 ·have hp:=Ay5 b.length
  have hk:Adv b.length=(64-(b.length+9)%64)%64:=rfl
  have hl:=A6o (b++Re b.length) zq1 (b++Re b.length).length 0 D4 zq0 zq0 zq1 zq4
  rw[List.drop_zero]at hl
  rw[A8 zq0,An,Am zq0,A5,Bc8 _ h,Aj,Am zq1,A5,show Avq=some (D4,())from rfl,Aj]
  rw[show Ay Ob (b++Re b.length,D4,(0:Int),())=_ from hl,Aj]
  rw[Bak _ ((Aff _ D4 _ (Nat.le_refl _) zq4).2.1),if_pos h]
  rfl
 ·rw[Am zq0,Aw,if_neg h]
theorem A4f (b:List YB) (hb:b.length≤4294967296):Ae8 (b,())=some (sha b,()):=by
 unfold Ae8 At2 sha
 simp only[Ag,Ai,Ad]
 by_cases h:b.length≤1048576
 ·have hp:=Ay5 b.length
  have hk:Adv b.length=(64-(b.length+9)%64)%64:=rfl
  have hc:=Aff _ D4 b (Nat.le_refl _) zq4
  have h8:D4.length=8:=rfl
  have hc21:=hc.2.1
  have hc1:=hc.1
  have e1:Adl (D4,[],0,()) (b,())=some ((Fp D4 b).1,(Fp D4 b).2,(b.length:Int),()):=by
   unfold Adl Ac9
   simp only[Ag,Ao,Ai,Ad,List.nil_append,List.length_nil,Nat.zero_add]
   rw[Ay6 _ zq4,Aj,show Alx (D4,[],0,())=true by decide]
   simp only[Bool.not_true,An]
   rw[w64 (n:=1048576-0) zq0,A8 zq0,An,Is _ (by simp[cat];omega) zq3,Aj,show cat [([],()),(b,())]=b by simp[cat],Aju _ _ zq4 zq0,Aj]
   simp only
   rw[Am zq0,A5,Cd _ zq2,Aj,w64 zq0]
   simp
  have e2:Adm ((Fp D4 b).1,(Fp D4 b).2,(b.length:Int),())=some (Rf (Fp D4 (b++Re b.length)).1,()):=by
   unfold Adm Ada
   simp only[Ag,Ao,Ai,Ad]
   rw[Ay6 _ (by dsimp only;rw[hc.2.1];decide),Aj]
   have ok:Alx ((Fp D4 b).1,(Fp D4 b).2,(b.length:Int),())=true:=by
    unfold Alx
    simp only[hc.2.2 A6p,hc.2.1,Bool.and_eq_true]
    refine⟨by decide,A6.2 zq0,?_⟩
    rw[hc.1];simp
   rw[ok]
   simp only[Bool.not_true,An]
   rw[Bc7 _ h,Aj,Is _ (by simp[cat];omega) zq3,Aj,show cat [((Fp D4 b).2,()),(Re b.length,())]=(Fp D4 b).2++Re b.length by simp[cat],Aju _ _ (by rw[hc.2.1];decide) zq1,Aj,←A8o _ _ _ _ (Nat.le_refl _)]
   simp only
   rw[A1x _ (by rw[(Aff _ D4 _ (Nat.le_refl _) zq4).2.1];decide)]
   rfl
  rw[A8 zq0,An,show Aoo=some (D4,[],0,())from rfl,Aj,e1,Aj,e2,Aj,if_pos h]
 ·rw[Am zq0,Aw,if_neg h]
end
end Go.Proofs.YtmhhajdeafijmaaGreat
