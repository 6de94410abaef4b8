/-
  That the program and the reference answer alike, in plain terms, and that the laws answer true.
-/
import Derived.Test.YtmhhajdeafijmaaL8
namespace Go.Proofs.Ytmhhajdeafijmaa
open Go.RowKit
set_option linter.unusedVariables false
set_option linter.unusedSimpArgs false
set_option maxHeartbeats 4000000
noncomputable section
def C8 (h:List YI) (b:List YB):List YI×List YB:=if 64≤b.length then C8 (Dq h (b.take 64)) (b.drop 64)else(h,b)
termination_by b.length
decreasing_by simp;omega
theorem J4 {h:List YI} {b:List YB} (hb:64≤b.length):C8 h b=C8 (Dq h (b.take 64)) (b.drop 64):=by rw[C8,if_pos hb]
theorem Fe {h:List YI} {b:List YB} (hb: ¬64≤b.length):C8 h b=(h,b):=by rw[C8,if_neg hb]
theorem Aiy: ∀(n:Nat) (h:List YI) (b p:List YB),b.length≤n→C8 h (b++p)=C8 (C8 h b).1 ((C8 h b).2++p):=by
 intro n
 induction n with
 |zero=>intro h b p hn;rw[Fe (b:=b) zq0]
 |succ n ih=>
  intro h b p hn
  by_cases hb:64≤b.length
  ·rw[J4 (b:=b) hb,J4 (b:=b++p) zq2,List.take_append_of_le_length hb,List.drop_append_of_le_length hb]
   exact ih _ _ _ zq2
  ·rw[Fe (b:=b) hb]
theorem N8: ∀(n:Nat) (h:List YI) (b:List YB),b.length≤n→h.length≤1073741824→(C8 h b).2.length=b.length%64∧(C8 h b).1.length=h.length∧(Cw h=true→Cw (C8 h b).1=true):=by
 intro n
 induction n with
 |zero=>intro h b hn hh;rw[Fe zq0];exact⟨by simp;omega,rfl,id⟩
 |succ n ih=>
  intro h b hn hh
  by_cases hb:64≤b.length
  ·rw[J4 hb]
   have hc:=Ln h (b.take 64) hh zq2
   obtain⟨h1,h2,h3⟩:=ih (Dq h (b.take 64)) (b.drop 64) zq2 zq0
   refine⟨?_,by omega,fun hw=>h3 (hc.2 hw)⟩
   rw[h1,List.length_drop];omega
  ·rw[Fe hb];exact⟨by simp only;omega,rfl,id⟩
theorem Qt (h:List YI) (b:List YB) (hh:h.length≤1073741824) (hb:b.length≤4294967296):F4 (h,()) (b,())=some (((C8 h b).1,()),((C8 h b).2,())):=by
 have key: ∀(n:Nat) (h:List YI) (b:List YB),b.length≤n→h.length≤1073741824→b.length≤4294967296→Am Cg (h,b,())=some ((C8 h b).1,(C8 h b).2,()):=by
  intro n
  induction n with
  |zero=>
   intro h b hn hh hb
   rw[Fe zq0,A7]
   unfold Cg
   simp only[Ad,Ah,Ae,Ac]
   rw[Au zq0,Aj]
  |succ n ih=>
   intro h b hn hh hb
   rw[A7]
   by_cases h64:64≤b.length
   ·have hB:Cg (h,b,())=some (.inl (Dq h (b.take 64),b.drop 64,())):=by
     unfold Cg
     simp only[Ad,Ah,Ae,Ac]
     rw[Af zq0,Ap,Af zq0]
     simp only[Ar,show(64:Int).toNat=64 from rfl,show(0:Int).toNat=0 from rfl,List.drop_zero,Int.toNat_natCast,List.take_length]
     rw[Afu _ _ hh zq2,Ag]
    have hc:=Ln h (b.take 64) hh zq2
    rw[hB,J4 h64,←ih (Dq h (b.take 64)) (b.drop 64) zq2 zq0 zq2]
   ·unfold Cg
    simp only[Ad,Ah,Ae,Ac]
    rw[Au zq0,Aj,Fe h64]
 unfold F4 Ir
 simp only[Ae,Ac]
 rw[key _ h b (Nat.le_refl _) hh hb]
 rfl
theorem Ahj (all:List YB) (ha:all.length≤4294967296): ∀(n i:Nat) (h:List YI),all.length-i≤n→i≤all.length→(all.length-i)%64=0→h.length≤1073741824→Am H7 (all,h,(i:Int),())=some ((C8 h (all.drop i)).1,()):=by
 intro n
 induction n with
 |zero=>
  intro i h hn hi hm hh
  rw[Fe zq2,A7]
  unfold H7
  simp only[Ad,Ah,Ae,Ac]
  rw[Au zq0,Aj]
 |succ n ih=>
  intro i h hn hi hm hh
  rw[A7]
  unfold H7
  simp only[Ad,Ah,Ae,Ac]
  by_cases h64:i<all.length
  ·rw[Af zq0,Ap,Af zq0,Ar,w64 (n:=(i:Int)+64) zq0,Af zq0,Ar,Af zq0,Ar]
   have e:(all.take ((i:Int)+64).toNat).drop ((i:Int)).toNat=(all.drop i).take 64:=by
    rw[show((i:Int)+64).toNat=i+64 by omega,Int.toNat_natCast,List.drop_take,Nat.add_sub_cancel_left]
   rw[e,Afv _ _ hh zq2,Ag]
   simp only
   have hc:=Ln h ((all.drop i).take 64) hh zq2
   rw[J4 (b:=all.drop i) zq2,List.drop_drop,show(i:Int)+64=((i+64:Nat):Int) by omega]
   exact ih (i+64) _ zq0 zq0 zq0 zq0
  ·rw[Au zq0,Aj,Fe zq2]
theorem Aby (m:Int) (j:Nat) (h0:0≤m) (h1:m<4294967296) (hj:4≤j) (hj2:j≤7):byt m j=((0:Int),()):=by
 have e:Int.fdiv m (2^(min (8*j) IntKind.i64.bits))=0:=by
  have hp:(4294967296:Int)≤2^(min (8*j) IntKind.i64.bits):=by
   have:j=4∨j=5∨j=6∨j=7:=by omega
   rcases this with rfl|rfl|rfl|rfl<;>decide
  rw[Int.fdiv_eq_ediv_of_nonneg _ zq0]
  exact Int.ediv_eq_zero_of_lt h0 zq0
 unfold byt
 rw[e];rfl
def Ng (n:Nat):Nat:=(64-(n+9)%64)%64
def Jk (n:Nat):List YB:=(((128:Int),())::List.replicate (Ng n) ((0:Int),()))++([((0:Int),()),((0:Int),())]++C7 (8*(n:Int)) 6 6)
theorem Abz (n:Nat):(Jk n).length=Ng n+9:=by simp[Jk,Ji]
theorem Aeu (n:Nat) (h:n≤1048576):Am F8 ((n:Int),[((128:Int),())],())=some ((n:Int),((128:Int),())::List.replicate (Ng n) ((0:Int),()),()):=by
 have hk:Ng n=(64-(n+9)%64)%64:=rfl
 refine B9 (B:=F8) (Ng n) (fun i=>((n:Int),((128:Int),())::List.replicate i ((0:Int),()),())) _ (fun i hi=>?_) ?_
 ·unfold F8
  simp only[Ad,Ah,Ac,List.length_cons,List.length_replicate]
  rw[w64 (n:=(n:Int)+((i+1:Nat):Int)) zq0,w64 zq0,Af zq0,Ar,Sp zq2,Af zq2,Ar,List.cons_append,←List.replicate_succ']
 ·unfold F8
  simp only[Ad,Ah,Ac,List.length_cons,List.length_replicate]
  rw[w64 (n:=(n:Int)+((Ng n+1:Nat):Int)) zq0,w64 zq0,Af zq0,Ar,Iy zq2]
theorem Al1 (n:Nat) (h:n≤1048576):W5 ((n:Int),())=some (Jk n,()):=by
 have hk:Ng n<64:=Nat.mod_lt _ zq0
 unfold W5 W4
 simp only[Ad,Ah,Ae,Ac,Hy,Ag]
 rw[Iy (by simp[inR];omega),Aeu n h,Ag,Af zq2,Ar,w64 zq0,Aj8 _ _ zq2,Ag]
 unfold Jk
 simp
theorem Al2 (n:Nat) (h:n≤1048576):Xe ((n:Int),())=some (Jk n,()):=by
 have hk:Ng n<64:=Nat.mod_lt _ zq0
 unfold Xe Xd
 simp only[Ad,Ah,Ae,Ac,Ag]
 rw[Au zq0,Aj,Au zq0,Aj,show Q6=F8 from rfl,Aeu n h,Ag,Jj _ _ zq2,Ag,Jj _ _ zq1,Ag,w64 zq0]
 unfold Jk
 have e0:C7 0 4 4=[((0:Int),()),((0:Int),()),((0:Int),()),((0:Int),())]:=by
  unfold C7
  simp only[show List.range 4=[0,1,2,3]from rfl,List.map]
  rfl
 have e6:C7 (8*(n:Int)) 6 6=[((0:Int),()),((0:Int),())]++C7 (8*(n:Int)) 4 4:=by
  have a:=Aby (8*(n:Int)) 5 zq0 zq0 zq0 zq0
  have b:=Aby (8*(n:Int)) 4 zq0 zq0 zq0 zq0
  unfold C7
  simp only[show List.range 4=[0,1,2,3]from rfl,show List.range 6=[0,1,2,3,4,5]from rfl,List.map]
  rw[show 6-1-0=5 from rfl,show 6-1-1=4 from rfl,a,b]
  rfl
 rw[e0,e6]
 simp
def Jl (l:List YI):List YB:=l.flatMap fun x=>C7 x.1 4 4
theorem Px (l:List YI):(Jl l).length=4*l.length:=by
 unfold Jl
 induction l with
 |nil=>rfl
 |cons x r ih=>simp only[List.flatMap_cons,List.length_append,Ji,ih,List.length_cons];omega
theorem Zw (l:List YI) (x:YI):Jl (l++[x])=Jl l++C7 x.1 4 4:=by simp[Jl]
theorem Ad3 (l:List YI) (h:l.length≤1048576):Kd (l,())=some (Jl l,()):=by
 have hr:=B9 (B:=Dm) l.length (fun i=>(Jl (l.take i),l,(l.length:Int),(i:Int),())) (Jl l,())
  (fun i hi=>by
   have hx:=List.getElem?_eq_getElem hi
   unfold Dm
   simp only[Ad,Ae,Ac,Hi hi,Ap,Bb hx,Ag]
   rw[Aes _ _ (by rw[Px];simp;omega),Ag,w64 zq0,←Fd hx,Zw]
   rfl)
  (by unfold Dm;simp only[Ad,Ac,Gp,Aj,List.take_length])
 unfold Kd Kc
 simp only[Ae,Ac]
 rw[show Am Dm ([],l,(l.length:Int),(0:Int),())=_ from hr]
 rfl
theorem Akc (l:List YI) (h:l.length=8):Q8 (l,())=some (Jl l,()):=by
 have hr:=B9 (B:=Fw) 8 (fun i=>(l,Jl (l.take i),(i:Int),())) (Jl l,())
  (fun i hi=>by
   have hx:=List.getElem?_eq_getElem (show i<l.length by omega)
   unfold Fw
   simp only[Ad,Ae,Ac]
   rw[Af zq0,Ap,Bb hx,Ag,Jj _ _ (by rw[Px];simp;omega),Ag,w64 zq0,←Fd hx,Zw]
   rfl)
  (by unfold Fw;simp only[Ad,Ac];rw[Au zq0,Aj,←h,List.take_length])
 unfold Q8 Q7
 simp only[Ae,Ac]
 rw[show Am Fw (l,[],(0:Int),())=_ from hr]
 rfl
def Ca:List YI:=[((1779033703:Int),()),((3144134277:Int),()),((1013904242:Int),()),((2773480762:Int),()),((1359893119:Int),()),((2600822924:Int),()),((528734635:Int),()),((1541459225:Int),())]
theorem Ahk:Cw Ca=true:=by decide
def Rq (h:Fh):Bool:=(Cw h.1 && ((h.1.length:Int)==8)) && (inR h.2.2.1 0 1048576 && ((h.2.2.1%64)==(h.2.1.length:Int)))
theorem Ab0 (h:Fh) (hl:h.1.length≤4294967296):Kj h=some (Rq h,()):=by
 unfold Kj O5 Rq
 simp only[Ad,Ah,Ae,Ac,Hy,Ag]
 rw[V4 _ _ hl,Ag]
 cases (Cw h.1 && ((h.1.length:Int)==8))with
 |false=>rfl
 |true=>
  cases hn:inR h.2.2.1 0 1048576 with
  |false=>rfl
  |true=>
   have:=Kq.1 hn
   simp only[Ap]
   rw[Af zq0,Ar]
   simp
def sha (b:List YB):List YB:=if b.length≤1048576 then Jl (C8 Ca (b++Jk b.length)).1 else []
theorem Aev (b:List YB):(sha b).length=32∨(sha b).length=0:=by
 unfold sha
 split
 ·left
  rw[Px,(N8 _ Ca _ (Nat.le_refl _) zq4).2.1];rfl
 ·right;rfl
theorem Afw (b:List YB):Nr (b,())=some (sha b,()):=by
 unfold Nr Xg sha
 simp only[Ad,Ah,Ae,Ac,List.nil_append,List.length_nil,Nat.zero_add]
 by_cases h:b.length≤1048576
 ·have hp:=Abz b.length
  have hk:Ng b.length=(64-(b.length+9)%64)%64:=rfl
  have hl:=Ahj (b++Jk b.length) zq2 (b++Jk b.length).length 0 Ca zq0 zq0 zq2 zq4
  rw[List.drop_zero]at hl
  rw[Au zq0,Aj,Af zq0,Ar,Al2 _ h,Ag,Af zq2,Ar,show Zn=some (Ca,())from rfl,Ag]
  rw[show Am H7 (b++Jk b.length,Ca,(0:Int),())=_ from hl,Ag]
  rw[Akc _ ((N8 _ Ca _ (Nat.le_refl _) zq4).2.1),if_pos h]
  rfl
 ·rw[Af zq0,Ap,if_neg h]
theorem Afx (b:List YB) (hb:b.length≤4294967296):Nq (b,())=some (sha b,()):=by
 unfold Nq W6 sha
 simp only[Ad,Ae,Ac]
 by_cases h:b.length≤1048576
 ·have hp:=Abz b.length
  have hk:Ng b.length=(64-(b.length+9)%64)%64:=rfl
  have hc:=N8 _ Ca b (Nat.le_refl _) zq4
  have h8:Ca.length=8:=rfl
  have hc21:=hc.2.1
  have hc1:=hc.1
  have e1:M4 (Ca,[],0,()) (b,())=some ((C8 Ca b).1,(C8 Ca b).2,(b.length:Int),()):=by
   unfold M4 M0
   simp only[Ad,Ah,Ae,Ac,List.nil_append,List.length_nil,Nat.zero_add]
   rw[Ab0 _ zq4,Ag,show Rq (Ca,[],0,())=true by decide]
   simp only[Bool.not_true,Aj]
   rw[w64 (n:=1048576-0) zq0,Au zq0,Aj,Hz _ (by simp[cat];omega) zq3,Ag,show cat [([],()),(b,())]=b by simp[cat],Qt _ _ zq4 zq0,Ag]
   simp only
   rw[Af zq0,Ar,G6 _ zq5,Ag,w64 zq0]
   simp
  have e2:M6 ((C8 Ca b).1,(C8 Ca b).2,(b.length:Int),())=some (Jl (C8 Ca (b++Jk b.length)).1,()):=by
   unfold M6 M5
   simp only[Ad,Ah,Ae,Ac]
   rw[Ab0 _ (by dsimp only;rw[hc.2.1];decide),Ag]
   have ok:Rq ((C8 Ca b).1,(C8 Ca b).2,(b.length:Int),())=true:=by
    unfold Rq
    simp only[hc.2.2 Ahk,hc.2.1,Bool.and_eq_true]
    refine⟨by decide,Kq.2 zq0,?_⟩
    rw[hc.1];simp
   rw[ok]
   simp only[Bool.not_true,Aj]
   rw[Al1 _ h,Ag,Hz _ (by simp[cat];omega) zq3,Ag,show cat [((C8 Ca b).2,()),(Jk b.length,())]=(C8 Ca b).2++Jk b.length by simp[cat],Qt _ _ (by rw[hc.2.1];decide) zq2,Ag,←Aiy _ _ _ _ (Nat.le_refl _)]
   simp only
   rw[Ad3 _ (by rw[(N8 _ Ca _ (Nat.le_refl _) zq4).2.1];decide)]
   rfl
  rw[Au zq0,Aj,show Tb=some (Ca,[],0,())from rfl,Ag,e1,Ag,e2,Ag,if_pos h]
 ·rw[Af zq0,Ap,if_neg h]
end
end Go.Proofs.Ytmhhajdeafijmaa
