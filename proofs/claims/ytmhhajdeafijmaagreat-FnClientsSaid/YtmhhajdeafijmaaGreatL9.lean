/-
  That the program and the reference answer alike, in plain terms, and that the laws answer true.
-/
import Derived.Test.YtmhhajdeafijmaaGreatL8
namespace Go.Proofs.YtmhhajdeafijmaaGreat
open Go.RowKit
set_option linter.unusedVariables false
set_option linter.unusedSimpArgs false
set_option maxHeartbeats 4000000
noncomputable section
def Fc (h:List YI) (b:List YB):List YI×List YB:=if 64≤b.length then Fc (F8 h (b.take 64)) (b.drop 64)else(h,b)
termination_by b.length
decreasing_by simp;omega
theorem Sm {h:List YI} {b:List YB} (hb:64≤b.length):Fc h b=Fc (F8 h (b.take 64)) (b.drop 64):=by rw[Fc,if_pos hb]
theorem I5 {h:List YI} {b:List YB} (hb: ¬64≤b.length):Fc h b=(h,b):=by rw[Fc,if_neg hb]
theorem A9l: ∀(n:Nat) (h:List YI) (b p:List YB),b.length≤n→Fc h (b++p)=Fc (Fc h b).1 ((Fc h b).2++p):=by
 intro n
 induction n with
 |zero=>intro h b p hn;rw[I5 (b:=b) zq0]
 |succ n ih=>
  intro h b p hn
  by_cases hb:64≤b.length
  ·rw[Sm (b:=b) hb,Sm (b:=b++p) zq1,List.take_append_of_le_length hb,List.drop_append_of_le_length hb]
   exact ih _ _ _ zq1
  ·rw[I5 (b:=b) hb]
theorem Aez: ∀(n:Nat) (h:List YI) (b:List YB),b.length≤n→h.length≤1073741824→(Fc h b).2.length=b.length%64∧(Fc h b).1.length=h.length∧(Du h=true→Du (Fc h b).1=true):=by
 intro n
 induction n with
 |zero=>intro h b hn hh;rw[I5 zq0];exact⟨by simp;omega,rfl,id⟩
 |succ n ih=>
  intro h b hn hh
  by_cases hb:64≤b.length
  ·rw[Sm hb]
   have hc:=Z8 h (b.take 64) hh zq1
   obtain⟨h1,h2,h3⟩:=ih (F8 h (b.take 64)) (b.drop 64) zq1 zq0
   refine⟨?_,by omega,fun hw=>h3 (hc.2 hw)⟩
   rw[h1,List.length_drop];omega
  ·rw[I5 hb];exact⟨by simp only;omega,rfl,id⟩
theorem Ajt (h:List YI) (b:List YB) (hh:h.length≤1073741824) (hb:b.length≤4294967296):Kf (h,()) (b,())=some (((Fc h b).1,()),((Fc h b).2,())):=by
 have key: ∀(n:Nat) (h:List YI) (b:List YB),b.length≤n→h.length≤1073741824→b.length≤4294967296→A1 D5 (h,b,())=some ((Fc h b).1,(Fc h b).2,()):=by
  intro n
  induction n with
  |zero=>
   intro h b hn hh hb
   rw[I5 zq0,Ci]
   unfold D5
   simp only[Aj,Aq,Al,Af]
   rw[Bg zq0,Aw]
  |succ n ih=>
   intro h b hn hh hb
   rw[Ci]
   by_cases h64:64≤b.length
   ·have hB:D5 (h,b,())=some (.inl (F8 h (b.take 64),b.drop 64,())):=by
     unfold D5
     simp only[Aj,Aq,Al,Af]
     rw[Ap zq0,Az,Ap zq0]
     simp only[Bd,show(64:Int).toNat=64 from rfl,show(0:Int).toNat=0 from rfl,List.drop_zero,Int.toNat_natCast,List.take_length]
     rw[A40 _ _ hh zq1,An]
    have hc:=Z8 h (b.take 64) hh zq1
    rw[hB,Sm h64,←ih (F8 h (b.take 64)) (b.drop 64) zq1 zq0 zq1]
   ·unfold D5
    simp only[Aj,Aq,Al,Af]
    rw[Bg zq0,Aw,I5 h64]
 unfold Kf Oj
 simp only[Al,Af]
 rw[key _ h b (Nat.le_refl _) hh hb]
 rfl
theorem A7d (all:List YB) (ha:all.length≤4294967296): ∀(n i:Nat) (h:List YI),all.length-i≤n→i≤all.length→(all.length-i)%64=0→h.length≤1073741824→A1 Nj (all,h,(i:Int),())=some ((Fc h (all.drop i)).1,()):=by
 intro n
 induction n with
 |zero=>
  intro i h hn hi hm hh
  rw[I5 zq1,Ci]
  unfold Nj
  simp only[Aj,Aq,Al,Af]
  rw[Bg zq0,Aw]
 |succ n ih=>
  intro i h hn hi hm hh
  rw[Ci]
  unfold Nj
  simp only[Aj,Aq,Al,Af]
  by_cases h64:i<all.length
  ·rw[Ap zq0,Az,Ap zq0,Bd,w64 (n:=(i:Int)+64) zq0,Ap zq0,Bd,Ap zq0,Bd]
   have e:(all.take ((i:Int)+64).toNat).drop ((i:Int)).toNat=(all.drop i).take 64:=by
    rw[show((i:Int)+64).toNat=i+64 by omega,Int.toNat_natCast,List.drop_take,Nat.add_sub_cancel_left]
   rw[e,A41 _ _ hh zq1,An]
   simp only
   have hc:=Z8 h ((all.drop i).take 64) hh zq1
   rw[Sm (b:=all.drop i) zq1,List.drop_drop,show(i:Int)+64=((i+64:Nat):Int) by omega]
   exact ih (i+64) _ zq0 zq0 zq0 zq0
  ·rw[Bg zq0,Aw,I5 zq1]
theorem Azj (m:Int) (j:Nat) (h0:0≤m) (h1:m<4294967296) (hj:4≤j) (hj2:j≤7):byt m j=((0:Int),()):=by
 have e:Int.fdiv m (2^(min (8*j) IntKind.i64.bits))=0:=by
  have hp:(4294967296:Int)≤2^(min (8*j) IntKind.i64.bits):=by
   have:j=4∨j=5∨j=6∨j=7:=by omega
   rcases this with rfl|rfl|rfl|rfl<;>decide
  rw[Int.fdiv_eq_ediv_of_nonneg _ zq0]
  exact Int.ediv_eq_zero_of_lt h0 zq0
 unfold byt
 rw[e];rfl
def Adk (n:Nat):Nat:=(64-(n+9)%64)%64
def Qs (n:Nat):List YB:=(((128:Int),())::List.replicate (Adk n) ((0:Int),()))++([((0:Int),()),((0:Int),())]++Fb (8*(n:Int)) 6 6)
theorem Azk (n:Nat):(Qs n).length=Adk n+9:=by simp[Qs,F7]
theorem A3i (n:Nat) (h:n≤1048576):A1 Kw ((n:Int),[((128:Int),())],())=some ((n:Int),((128:Int),())::List.replicate (Adk n) ((0:Int),()),()):=by
 have hk:Adk n=(64-(n+9)%64)%64:=rfl
 refine Cv (B:=Kw) (Adk n) (fun i=>((n:Int),((128:Int),())::List.replicate i ((0:Int),()),())) _ (fun i hi=>?_) ?_
 ·unfold Kw
  simp only[Aj,Aq,Af,List.length_cons,List.length_replicate]
  rw[w64 (n:=(n:Int)+((i+1:Nat):Int)) zq0,w64 zq0,Ap zq0,Bd,D6 zq1,Ap zq1,Bd,List.cons_append,←List.replicate_succ']
 ·unfold Kw
  simp only[Aj,Aq,Af,List.length_cons,List.length_replicate]
  rw[w64 (n:=(n:Int)+((Adk n+1:Nat):Int)) zq0,w64 zq0,Ap zq0,Bd,Cp zq1]
theorem Bdo (n:Nat) (h:n≤1048576):At5 ((n:Int),())=some (Qs n,()):=by
 have hk:Adk n<64:=Nat.mod_lt _ zq0
 unfold At5 At4
 simp only[Aj,Aq,Al,Af,Ch,An]
 rw[Cp zq5,A3i n h,An,Ap zq1,Bd,w64 zq0,A3f _ _ zq1,An]
 unfold Qs
 simp
theorem Bdp (n:Nat) (h:n≤1048576):Atw ((n:Int),())=some (Qs n,()):=by
 have hk:Adk n<64:=Nat.mod_lt _ zq0
 unfold Atw Atv
 simp only[Aj,Aq,Al,Af,An]
 rw[Bg zq0,Aw,Bg zq0,Aw,show Aj8=Kw from rfl,A3i n h,An,Qr _ _ zq1,An,Qr _ _ (by simp[F7];omega),An,w64 zq0]
 unfold Qs
 have e0:Fb 0 4 4=[((0:Int),()),((0:Int),()),((0:Int),()),((0:Int),())]:=by
  unfold Fb
  simp only[show List.range 4=[0,1,2,3]from rfl,List.map]
  rfl
 have e6:Fb (8*(n:Int)) 6 6=[((0:Int),()),((0:Int),())]++Fb (8*(n:Int)) 4 4:=by
  have a:=Azj (8*(n:Int)) 5 zq0 zq0 zq0 zq0
  have b:=Azj (8*(n:Int)) 4 zq0 zq0 zq0 zq0
  unfold Fb
  simp only[show List.range 4=[0,1,2,3]from rfl,show List.range 6=[0,1,2,3,4,5]from rfl,List.map]
  rw[show 6-1-0=5 from rfl,show 6-1-1=4 from rfl,a,b]
  rfl
 rw[e0,e6]
 simp
def Qt (l:List YI):List YB:=l.flatMap fun x=>Fb x.1 4 4
theorem Aib (l:List YI):(Qt l).length=4*l.length:=by
 unfold Qt
 induction l with
 |nil=>rfl
 |cons x r ih=>simp only[List.flatMap_cons,List.length_append,F7,ih,List.length_cons];omega
theorem Awa (l:List YI) (x:YI):Qt (l++[x])=Qt l++Fb x.1 4 4:=by simp[Qt]
theorem A2i (l:List YI) (h:l.length≤1048576):S8 (l,())=some (Qt l,()):=by
 have hr:=Cv (B:=F3) l.length (fun i=>(Qt (l.take i),l,(l.length:Int),(i:Int),())) (Qt l,())
  (fun i hi=>by
   have hx:=List.getElem?_eq_getElem hi
   unfold F3
   simp only[Aj,Al,Af,O9 hi,Az,Di hx,An]
   rw[Anb _ _ (by rw[Aib];simp;omega),An,w64 zq0,←Gk hx,Awa]
   rfl)
  (by unfold F3;simp only[Aj,Af,Pa,Aw,List.take_length])
 unfold S8 S7
 simp only[Al,Af]
 rw[show A1 F3 ([],l,(l.length:Int),(0:Int),())=_ from hr]
 rfl
theorem Ba8 (l:List YI) (h:l.length=8):Aka (l,())=some (Qt l,()):=by
 have hr:=Cv (B:=J4) 8 (fun i=>(l,Qt (l.take i),(i:Int),())) (Qt l,())
  (fun i hi=>by
   have hx:=List.getElem?_eq_getElem (show i<l.length by omega)
   unfold J4
   simp only[Aj,Al,Af]
   rw[Ap zq0,Az,Di hx,An,Qr _ _ (by rw[Aib];simp;omega),An,w64 zq0,←Gk hx,Awa]
   rfl)
  (by unfold J4;simp only[Aj,Af];rw[Bg zq0,Aw,←h,List.take_length])
 unfold Aka Aj9
 simp only[Al,Af]
 rw[show A1 J4 (l,[],(0:Int),())=_ from hr]
 rfl
def Dv:List YI:=[((1779033703:Int),()),((3144134277:Int),()),((1013904242:Int),()),((2773480762:Int),()),((1359893119:Int),()),((2600822924:Int),()),((528734635:Int),()),((1541459225:Int),())]
theorem A7e:Du Dv=true:=by decide
def Al7 (h:Ja):Bool:=(Du h.1 && ((h.1.length:Int)==8)) && (inR h.2.2.1 0 1048576 && ((h.2.2.1%64)==(h.2.1.length:Int)))
theorem Azl (h:Ja) (hl:h.1.length≤4294967296):Wk h=some (Al7 h,()):=by
 unfold Wk Ag0 Al7
 simp only[Aj,Aq,Al,Af,Ch,An]
 rw[Ah6 _ _ hl,An]
 cases (Du h.1 && ((h.1.length:Int)==8))with
 |false=>rfl
 |true=>
  cases hn:inR h.2.2.1 0 1048576 with
  |false=>rfl
  |true=>
   have:=Bt.1 hn
   simp only[Az]
   rw[Ap zq0,Bd]
   simp
def sha (b:List YB):List YB:=if b.length≤1048576 then Qt (Fc Dv (b++Qs b.length)).1 else []
theorem A3j (b:List YB):(sha b).length=32∨(sha b).length=0:=by
 unfold sha
 split
 ·left
  rw[Aib,(Aez _ Dv _ (Nat.le_refl _) zq4).2.1];rfl
 ·right;rfl
theorem A42 (b:List YB):Adz (b,())=some (sha b,()):=by
 unfold Adz Aty sha
 simp only[Aj,Aq,Al,Af,List.nil_append,List.length_nil,Nat.zero_add]
 by_cases h:b.length≤1048576
 ·have hp:=Azk b.length
  have hk:Adk b.length=(64-(b.length+9)%64)%64:=rfl
  have hl:=A7d (b++Qs b.length) zq1 (b++Qs b.length).length 0 Dv zq0 zq0 zq1 zq4
  rw[List.drop_zero]at hl
  rw[Bg zq0,Aw,Ap zq0,Bd,Bdp _ h,An,Ap zq1,Bd,show Avk=some (Dv,())from rfl,An]
  rw[show A1 Nj (b++Qs b.length,Dv,(0:Int),())=_ from hl,An]
  rw[Ba8 _ ((Aez _ Dv _ (Nat.le_refl _) zq4).2.1),if_pos h]
  rfl
 ·rw[Ap zq0,Az,if_neg h]
theorem A43 (b:List YB) (hb:b.length≤4294967296):Ad2 (b,())=some (sha b,()):=by
 unfold Ad2 At6 sha
 simp only[Aj,Al,Af]
 by_cases h:b.length≤1048576
 ·have hp:=Azk b.length
  have hk:Adk b.length=(64-(b.length+9)%64)%64:=rfl
  have hc:=Aez _ Dv b (Nat.le_refl _) zq4
  have h8:Dv.length=8:=rfl
  have hc21:=hc.2.1
  have hc1:=hc.1
  have e1:Acm (Dv,[],0,()) (b,())=some ((Fc Dv b).1,(Fc Dv b).2,(b.length:Int),()):=by
   unfold Acm Acl
   simp only[Aj,Aq,Al,Af,List.nil_append,List.length_nil,Nat.zero_add]
   rw[Azl _ zq4,An,show Al7 (Dv,[],0,())=true by decide]
   simp only[Bool.not_true,Aw]
   rw[w64 (n:=1048576-0) zq0,Bg zq0,Aw,H8 _ (by simp[cat];omega) zq3,An,show cat [([],()),(b,())]=b by simp[cat],Ajt _ _ zq4 zq0,An]
   simp only
   rw[Ap zq0,Bd,C4 _ zq2,An,w64 zq0]
   simp
  have e2:Aco ((Fc Dv b).1,(Fc Dv b).2,(b.length:Int),())=some (Qt (Fc Dv (b++Qs b.length)).1,()):=by
   unfold Aco Acn
   simp only[Aj,Aq,Al,Af]
   rw[Azl _ (by dsimp only;rw[hc.2.1];decide),An]
   have ok:Al7 ((Fc Dv b).1,(Fc Dv b).2,(b.length:Int),())=true:=by
    unfold Al7
    simp only[hc.2.2 A7e,hc.2.1,Bool.and_eq_true]
    refine⟨by decide,Bt.2 zq0,?_⟩
    rw[hc.1];simp
   rw[ok]
   simp only[Bool.not_true,Aw]
   rw[Bdo _ h,An,H8 _ (by simp[cat];omega) zq3,An,show cat [((Fc Dv b).2,()),(Qs b.length,())]=(Fc Dv b).2++Qs b.length by simp[cat],Ajt _ _ (by rw[hc.2.1];decide) zq1,An,←A9l _ _ _ _ (Nat.le_refl _)]
   simp only
   rw[A2i _ (by rw[(Aez _ Dv _ (Nat.le_refl _) zq4).2.1];decide)]
   rfl
  rw[Bg zq0,Aw,show Anz=some (Dv,[],0,())from rfl,An,e1,An,e2,An,if_pos h]
 ·rw[Ap zq0,Az,if_neg h]
end
end Go.Proofs.YtmhhajdeafijmaaGreat
