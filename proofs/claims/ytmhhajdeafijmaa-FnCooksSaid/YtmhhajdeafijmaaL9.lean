/-
  That the program and the reference answer alike, in plain terms, and that the laws answer true.
-/
import Derived.Test.YtmhhajdeafijmaaL8
namespace Go.Proofs.Ytmhhajdeafijmaa
open Go.RowKit
set_option linter.unusedVariables false
set_option linter.unusedSimpArgs false
set_option maxHeartbeats 4000000
noncomputable section
def C8 (h:List YI) (b:List YB):List YI×List YB:=if 64≤b.length then C8 (Do h (b.take 64)) (b.drop 64)else(h,b)
termination_by b.length
decreasing_by simp;omega
theorem J2 {h:List YI} {b:List YB} (hb:64≤b.length):C8 h b=C8 (Do h (b.take 64)) (b.drop 64):=by rw[C8,if_pos hb]
theorem Fe {h:List YI} {b:List YB} (hb: ¬64≤b.length):C8 h b=(h,b):=by rw[C8,if_neg hb]
theorem Aiv: ∀(n:Nat) (h:List YI) (b p:List YB),b.length≤n→C8 h (b++p)=C8 (C8 h b).1 ((C8 h b).2++p):=by
 intro n
 induction n with
 |zero=>intro h b p hn;rw[Fe (b:=b) zq0]
 |succ n ih=>
  intro h b p hn
  by_cases hb:64≤b.length
  ·rw[J2 (b:=b) hb,J2 (b:=b++p) zq2,List.take_append_of_le_length hb,List.drop_append_of_le_length hb]
   exact ih _ _ _ zq2
  ·rw[Fe (b:=b) hb]
theorem N6: ∀(n:Nat) (h:List YI) (b:List YB),b.length≤n→h.length≤1073741824→(C8 h b).2.length=b.length%64∧(C8 h b).1.length=h.length∧(Cw h=true→Cw (C8 h b).1=true):=by
 intro n
 induction n with
 |zero=>intro h b hn hh;rw[Fe zq0];exact⟨by simp;omega,rfl,id⟩
 |succ n ih=>
  intro h b hn hh
  by_cases hb:64≤b.length
  ·rw[J2 hb]
   have hc:=Lk h (b.take 64) hh zq2
   obtain⟨h1,h2,h3⟩:=ih (Do h (b.take 64)) (b.drop 64) zq2 zq0
   refine⟨?_,by omega,fun hw=>h3 (hc.2 hw)⟩
   rw[h1,List.length_drop];omega
  ·rw[Fe hb];exact⟨by simp only;omega,rfl,id⟩
theorem Qr (h:List YI) (b:List YB) (hh:h.length≤1073741824) (hb:b.length≤4294967296):F4 (h,()) (b,())=some (((C8 h b).1,()),((C8 h b).2,())):=by
 have key: ∀(n:Nat) (h:List YI) (b:List YB),b.length≤n→h.length≤1073741824→b.length≤4294967296→Am Cg (h,b,())=some ((C8 h b).1,(C8 h b).2,()):=by
  intro n
  induction n with
  |zero=>
   intro h b hn hh hb
   rw[Fe zq0,A8]
   unfold Cg
   simp only[Ad,Ah,Ae,Ac]
   rw[Av zq0,Ai]
  |succ n ih=>
   intro h b hn hh hb
   rw[A8]
   by_cases h64:64≤b.length
   ·have hB:Cg (h,b,())=some (.inl (Do h (b.take 64),b.drop 64,())):=by
     unfold Cg
     simp only[Ad,Ah,Ae,Ac]
     rw[Af zq0,Ap,Af zq0]
     simp only[Ar,show(64:Int).toNat=64 from rfl,show(0:Int).toNat=0 from rfl,List.drop_zero,Int.toNat_natCast,List.take_length]
     rw[Afq _ _ hh zq2,Ag]
    have hc:=Lk h (b.take 64) hh zq2
    rw[hB,J2 h64,←ih (Do h (b.take 64)) (b.drop 64) zq2 zq0 zq2]
   ·unfold Cg
    simp only[Ad,Ah,Ae,Ac]
    rw[Av zq0,Ai,Fe h64]
 unfold F4 Im
 simp only[Ae,Ac]
 rw[key _ h b (Nat.le_refl _) hh hb]
 rfl
theorem Ahg (all:List YB) (ha:all.length≤4294967296): ∀(n i:Nat) (h:List YI),all.length-i≤n→i≤all.length→(all.length-i)%64=0→h.length≤1073741824→Am H4 (all,h,(i:Int),())=some ((C8 h (all.drop i)).1,()):=by
 intro n
 induction n with
 |zero=>
  intro i h hn hi hm hh
  rw[Fe zq2,A8]
  unfold H4
  simp only[Ad,Ah,Ae,Ac]
  rw[Av zq0,Ai]
 |succ n ih=>
  intro i h hn hi hm hh
  rw[A8]
  unfold H4
  simp only[Ad,Ah,Ae,Ac]
  by_cases h64:i<all.length
  ·rw[Af zq0,Ap,Af zq0,Ar,w64 (n:=(i:Int)+64) zq0,Af zq0,Ar,Af zq0,Ar]
   have e:(all.take ((i:Int)+64).toNat).drop ((i:Int)).toNat=(all.drop i).take 64:=by
    rw[show((i:Int)+64).toNat=i+64 by omega,Int.toNat_natCast,List.drop_take,Nat.add_sub_cancel_left]
   rw[e,Afr _ _ hh zq2,Ag]
   simp only
   have hc:=Lk h ((all.drop i).take 64) hh zq2
   rw[J2 (b:=all.drop i) zq2,List.drop_drop,show(i:Int)+64=((i+64:Nat):Int) by omega]
   exact ih (i+64) _ zq0 zq0 zq0 zq0
  ·rw[Av zq0,Ai,Fe zq2]
theorem Abw (m:Int) (j:Nat) (h0:0≤m) (h1:m<4294967296) (hj:4≤j) (hj2:j≤7):byt m j=((0:Int),()):=by
 have e:Int.fdiv m (2^(min (8*j) IntKind.i64.bits))=0:=by
  have hp:(4294967296:Int)≤2^(min (8*j) IntKind.i64.bits):=by
   have:j=4∨j=5∨j=6∨j=7:=by omega
   rcases this with rfl|rfl|rfl|rfl<;>decide
  rw[Int.fdiv_eq_ediv_of_nonneg _ zq0]
  exact Int.ediv_eq_zero_of_lt h0 zq0
 unfold byt
 rw[e];rfl
def Nd (n:Nat):Nat:=(64-(n+9)%64)%64
def Ji (n:Nat):List YB:=(((128:Int),())::List.replicate (Nd n) ((0:Int),()))++([((0:Int),()),((0:Int),())]++C7 (8*(n:Int)) 6 6)
theorem Abx (n:Nat):(Ji n).length=Nd n+9:=by simp[Ji,Jg]
theorem Aer (n:Nat) (h:n≤1048576):Am F7 ((n:Int),[((128:Int),())],())=some ((n:Int),((128:Int),())::List.replicate (Nd n) ((0:Int),()),()):=by
 have hk:Nd n=(64-(n+9)%64)%64:=rfl
 refine Ca (B:=F7) (Nd n) (fun i=>((n:Int),((128:Int),())::List.replicate i ((0:Int),()),())) _ (fun i hi=>?_) ?_
 ·unfold F7
  simp only[Ad,Ah,Ac,List.length_cons,List.length_replicate]
  rw[w64 (n:=(n:Int)+((i+1:Nat):Int)) zq0,w64 zq0,Af zq0,Ar,Sm zq2,Af zq2,Ar,List.cons_append,←List.replicate_succ']
 ·unfold F7
  simp only[Ad,Ah,Ac,List.length_cons,List.length_replicate]
  rw[w64 (n:=(n:Int)+((Nd n+1:Nat):Int)) zq0,w64 zq0,Af zq0,Ar,Iv zq2]
theorem Al0 (n:Nat) (h:n≤1048576):W2 ((n:Int),())=some (Ji n,()):=by
 have hk:Nd n<64:=Nat.mod_lt _ zq0
 unfold W2 W1
 simp only[Ad,Ah,Ae,Ac,Hw,Ag]
 rw[Iv (by simp[inR];omega),Aer n h,Ag,Af zq2,Ar,w64 zq0,Aj6 _ _ zq2,Ag]
 unfold Ji
 simp
theorem Al1 (n:Nat) (h:n≤1048576):Xb ((n:Int),())=some (Ji n,()):=by
 have hk:Nd n<64:=Nat.mod_lt _ zq0
 unfold Xb Xa
 simp only[Ad,Ah,Ae,Ac,Ag]
 rw[Av zq0,Ai,Av zq0,Ai,show Q4=F7 from rfl,Aer n h,Ag,Jh _ _ zq2,Ag,Jh _ _ zq1,Ag,w64 zq0]
 unfold Ji
 have e0:C7 0 4 4=[((0:Int),()),((0:Int),()),((0:Int),()),((0:Int),())]:=by
  unfold C7
  simp only[show List.range 4=[0,1,2,3]from rfl,List.map]
  rfl
 have e6:C7 (8*(n:Int)) 6 6=[((0:Int),()),((0:Int),())]++C7 (8*(n:Int)) 4 4:=by
  have a:=Abw (8*(n:Int)) 5 zq0 zq0 zq0 zq0
  have b:=Abw (8*(n:Int)) 4 zq0 zq0 zq0 zq0
  unfold C7
  simp only[show List.range 4=[0,1,2,3]from rfl,show List.range 6=[0,1,2,3,4,5]from rfl,List.map]
  rw[show 6-1-0=5 from rfl,show 6-1-1=4 from rfl,a,b]
  rfl
 rw[e0,e6]
 simp
def Jj (l:List YI):List YB:=l.flatMap fun x=>C7 x.1 4 4
theorem Pv (l:List YI):(Jj l).length=4*l.length:=by
 unfold Jj
 induction l with
 |nil=>rfl
 |cons x r ih=>simp only[List.flatMap_cons,List.length_append,Jg,ih,List.length_cons];omega
theorem Zt (l:List YI) (x:YI):Jj (l++[x])=Jj l++C7 x.1 4 4:=by simp[Jj]
theorem Ad0 (l:List YI) (h:l.length≤1048576):Ka (l,())=some (Jj l,()):=by
 have hr:=Ca (B:=Dk) l.length (fun i=>(Jj (l.take i),l,(l.length:Int),(i:Int),())) (Jj l,())
  (fun i hi=>by
   have hx:=List.getElem?_eq_getElem hi
   unfold Dk
   simp only[Ad,Ae,Ac,Hg hi,Ap,Bc hx,Ag]
   rw[Aep _ _ (by rw[Pv];simp;omega),Ag,w64 zq0,←Fd hx,Zt]
   rfl)
  (by unfold Dk;simp only[Ad,Ac,Gn,Ai,List.take_length])
 unfold Ka J9
 simp only[Ae,Ac]
 rw[show Am Dk ([],l,(l.length:Int),(0:Int),())=_ from hr]
 rfl
theorem Aka (l:List YI) (h:l.length=8):Q6 (l,())=some (Jj l,()):=by
 have hr:=Ca (B:=Fw) 8 (fun i=>(l,Jj (l.take i),(i:Int),())) (Jj l,())
  (fun i hi=>by
   have hx:=List.getElem?_eq_getElem (show i<l.length by omega)
   unfold Fw
   simp only[Ad,Ae,Ac]
   rw[Af zq0,Ap,Bc hx,Ag,Jh _ _ (by rw[Pv];simp;omega),Ag,w64 zq0,←Fd hx,Zt]
   rfl)
  (by unfold Fw;simp only[Ad,Ac];rw[Av zq0,Ai,←h,List.take_length])
 unfold Q6 Q5
 simp only[Ae,Ac]
 rw[show Am Fw (l,[],(0:Int),())=_ from hr]
 rfl
def Cb:List YI:=[((1779033703:Int),()),((3144134277:Int),()),((1013904242:Int),()),((2773480762:Int),()),((1359893119:Int),()),((2600822924:Int),()),((528734635:Int),()),((1541459225:Int),())]
theorem Ahh:Cw Cb=true:=by decide
def Ro (h:Fh):Bool:=(Cw h.1 && ((h.1.length:Int)==8)) && (inR h.2.2.1 0 1048576 && ((h.2.2.1%64)==(h.2.1.length:Int)))
theorem Aby (h:Fh) (hl:h.1.length≤4294967296):Kg h=some (Ro h,()):=by
 unfold Kg O3 Ro
 simp only[Ad,Ah,Ae,Ac,Hw,Ag]
 rw[V0 _ _ hl,Ag]
 cases (Cw h.1 && ((h.1.length:Int)==8))with
 |false=>rfl
 |true=>
  cases hn:inR h.2.2.1 0 1048576 with
  |false=>rfl
  |true=>
   have:=Kn.1 hn
   simp only[Ap]
   rw[Af zq0,Ar]
   simp
def sha (b:List YB):List YB:=if b.length≤1048576 then Jj (C8 Cb (b++Ji b.length)).1 else []
theorem Aes (b:List YB):(sha b).length=32∨(sha b).length=0:=by
 unfold sha
 split
 ·left
  rw[Pv,(N6 _ Cb _ (Nat.le_refl _) zq4).2.1];rfl
 ·right;rfl
theorem Afs (b:List YB):Np (b,())=some (sha b,()):=by
 unfold Np Xd sha
 simp only[Ad,Ah,Ae,Ac,List.nil_append,List.length_nil,Nat.zero_add]
 by_cases h:b.length≤1048576
 ·have hp:=Abx b.length
  have hk:Nd b.length=(64-(b.length+9)%64)%64:=rfl
  have hl:=Ahg (b++Ji b.length) zq2 (b++Ji b.length).length 0 Cb zq0 zq0 zq2 zq4
  rw[List.drop_zero]at hl
  rw[Av zq0,Ai,Af zq0,Ar,Al1 _ h,Ag,Af zq2,Ar,show Zk=some (Cb,())from rfl,Ag]
  rw[show Am H4 (b++Ji b.length,Cb,(0:Int),())=_ from hl,Ag]
  rw[Aka _ ((N6 _ Cb _ (Nat.le_refl _) zq4).2.1),if_pos h]
  rfl
 ·rw[Af zq0,Ap,if_neg h]
theorem Aft (b:List YB) (hb:b.length≤4294967296):No (b,())=some (sha b,()):=by
 unfold No W3 sha
 simp only[Ad,Ae,Ac]
 by_cases h:b.length≤1048576
 ·have hp:=Abx b.length
  have hk:Nd b.length=(64-(b.length+9)%64)%64:=rfl
  have hc:=N6 _ Cb b (Nat.le_refl _) zq4
  have h8:Cb.length=8:=rfl
  have hc21:=hc.2.1
  have hc1:=hc.1
  have e1:Mz (Cb,[],0,()) (b,())=some ((C8 Cb b).1,(C8 Cb b).2,(b.length:Int),()):=by
   unfold Mz My
   simp only[Ad,Ah,Ae,Ac,List.nil_append,List.length_nil,Nat.zero_add]
   rw[Aby _ zq4,Ag,show Ro (Cb,[],0,())=true by decide]
   simp only[Bool.not_true,Ai]
   rw[w64 (n:=1048576-0) zq0,Av zq0,Ai,Hx _ (by simp[cat];omega) zq3,Ag,show cat [([],()),(b,())]=b by simp[cat],Qr _ _ zq4 zq0,Ag]
   simp only
   rw[Af zq0,Ar,G4 _ zq5,Ag,w64 zq0]
   simp
  have e2:M4 ((C8 Cb b).1,(C8 Cb b).2,(b.length:Int),())=some (Jj (C8 Cb (b++Ji b.length)).1,()):=by
   unfold M4 M0
   simp only[Ad,Ah,Ae,Ac]
   rw[Aby _ (by dsimp only;rw[hc.2.1];decide),Ag]
   have ok:Ro ((C8 Cb b).1,(C8 Cb b).2,(b.length:Int),())=true:=by
    unfold Ro
    simp only[hc.2.2 Ahh,hc.2.1,Bool.and_eq_true]
    refine⟨by decide,Kn.2 zq0,?_⟩
    rw[hc.1];simp
   rw[ok]
   simp only[Bool.not_true,Ai]
   rw[Al0 _ h,Ag,Hx _ (by simp[cat];omega) zq3,Ag,show cat [((C8 Cb b).2,()),(Ji b.length,())]=(C8 Cb b).2++Ji b.length by simp[cat],Qr _ _ (by rw[hc.2.1];decide) zq2,Ag,←Aiv _ _ _ _ (Nat.le_refl _)]
   simp only
   rw[Ad0 _ (by rw[(N6 _ Cb _ (Nat.le_refl _) zq4).2.1];decide)]
   rfl
  rw[Av zq0,Ai,show S8=some (Cb,[],0,())from rfl,Ag,e1,Ag,e2,Ag,if_pos h]
 ·rw[Af zq0,Ap,if_neg h]
end
end Go.Proofs.Ytmhhajdeafijmaa
