/-
  That the program and the reference answer alike, in plain terms, and that the laws answer true.
-/
import Derived.Test.YtmhhajdeafijmaaGreatL32
namespace Go.Proofs.YtmhhajdeafijmaaGreat
open Go.RowKit
set_option linter.unusedVariables false
set_option linter.unusedSimpArgs false
set_option maxRecDepth 100000
set_option maxHeartbeats 4000000
noncomputable section
def An8 (a b:Int) (x:Am):Prop:=Id (x.1,x.2.1,())=true∧eqA x.1 x.2.1 a b=false∧x.2.2.1.length=12∧(0≤x.2.2.2.1∧x.2.2.2.1≤1000006)
theorem Ks {a b:Int} {l:List Am}:Fv (a,b,l,())=true↔Id (a,b,())=true∧l.length≤3∧(∀x∈l,An8 a b x)∧l.Pairwise (fun y x=>eqA y.1 y.2.1 x.1 x.2.1=false):=by
 have key:G3 (Mt a b l) l=true↔(∀x∈l,An8 a b x)∧l.Pairwise (fun y x=>eqA y.1 y.2.1 x.1 x.2.1=false):=by
  rw[Ak1,List.pairwise_iff_getElem]
  unfold Mt An8
  simp only[Bool.not_eq_false',Bool.and_eq_true,Bool.not_eq_true',beq_iff_eq,C6,Ak1]
  constructor
  ·intro h
   refine⟨fun x hx=>?_,fun i j hi hj hij=>?_⟩
   ·obtain⟨j,hj⟩:=List.getElem?_of_mem hx
    obtain⟨h1,h2,h3,h4,_⟩:=h j x hj
    exact⟨h1,h2,by omega,h4⟩
   ·obtain⟨_,_,_,_,h5⟩:=h j l[j] (List.getElem?_eq_getElem hj)
    exact h5 i l[i] (by rw[List.getElem?_take,if_pos hij];exact List.getElem?_eq_getElem hi)
  ·rintro⟨h1,h2⟩ j x hj
   obtain⟨g1,g2,g3,g4⟩:=h1 x (List.mem_of_getElem? hj)
   refine⟨g1,g2,by omega,g4,fun i y hi=>?_⟩
   rw[List.getElem?_take]at hi
   split at hi
   ·rename_i hlt
    obtain⟨k1,k2⟩:=List.getElem?_eq_some_iff.1 hi
    obtain⟨k3,k4⟩:=List.getElem?_eq_some_iff.1 hj
    have:=h2 i j k1 k3 hlt
    rw[k2,k4]at this
    exact this
   ·cases hi
 unfold Fv
 simp only[Bool.and_eq_true,Bool.not_eq_true',decide_eq_false_iff_not,key]
 constructor
 ·rintro⟨h1,h2,h3⟩;exact⟨h1,by omega,h3⟩
 ·rintro⟨h1,h2,h3⟩;exact⟨h1,by omega,h3⟩
def atA (a b:Int) (x:Am):Bool:=eqA x.1 x.2.1 a b
theorem Ak5 {a b c d:Int}:eqA a b c d=true↔a=c∧b=d:=by unfold eqA;simp
theorem Axx (p:A7) (a:Bw) (h:p.2.2.1.length≤4294967296):Up p a=some (Aw5 (atA a.1 a.2.1) p.2.2.1,()):=by
 obtain⟨b,d,l,⟨⟩⟩:=p
 simp only at h
 have hl:=X9 (B:=Le) l (fun i=>(l,(l.length:Int),(i:Int),a.1,a.2.1,())) (fun _ x=>atA a.1 a.2.1 x) (fun i=>((i:Int),())) ()
  (fun i x hi hx=>by
   unfold Le
   simp (disch:=omega) only[Af,Ah,Ac,En hi,Az,Ce hx,Ai,w64]
   rfl)
  (by unfold Le;simp only[Af,Ac,Eo,Ap])
 unfold Up Aep
 simp only[Ah,Ac,Hp]
 rw[show((0:Int))=((0:Nat):Int)from rfl,hl]
 exact A9x _ _
theorem A5p {p:A7} {n:Int} (h:Fv p=true):Fv (Eb p n)=true:=by
 obtain⟨a,b,l,⟨⟩⟩:=p
 obtain⟨h1,h2,h3,h4⟩:=Ks.1 h
 refine Ks.2 ⟨h1,?_,fun x hx=>h3 x ((List.mem_filter.1 hx).1),h4.filter _⟩
 have:=List.length_filter_le (Ig n) l
 exact Nat.le_trans this h2
def OfH (p:A7) (n:Int) (p':A7) (b:Bool):Prop:=(b=false→p'=p)∧A0 p'≤A0 p+50∧(b=true→Fv p=true∧Fv p'=true)
theorem I0 (p:A7) (n:YI) (a:Bw) (d:YBs) (h:A0 p≤4294967296): ∃p' b,Dy p n a d=some (p',(b,()))∧Da p n a d=some (p',(b,()))∧OfH p n.1 p' b:=by
 have h':=h
 have hl0:p.2.2.1.length≤A0 p:=by simp only[A0];omega
 obtain⟨d,⟨⟩⟩:=d
 have nope: ∃p' b,some (p,(false,()))=some (p',(b,()))∧some (p,(false,()))=some (p',(b,()))∧OfH p n.1 p' b:=⟨p,false,rfl,rfl,fun _=>rfl,by omega,fun h=>by cases h⟩
 unfold Dy Aig Da Ah3
 simp only[Af,Ah,Ac,An,Hp]
 rw[Ajp p zq0,X6 p zq0,C9,C4,Afn,W0,Ot,Ss p h,Ov p h,An7 p n h,A22 p n h]
 simp only[Ai,bne]
 cases ho:Fv p with
 |false=>exact nope
 |true=>
 simp only[Bool.not_true,Ap]
 cases hn:inR n.1 0 1000000 with
 |false=>exact nope
 |true=>
 simp only[Bool.not_true,Ap]
 cases ha:Id a with
 |false=>exact nope
 |true=>
 simp only[Bool.not_true,Ap]
 cases hd:((d.length:Int)==12)with
 |false=>exact nope
 |true=>
 simp only[Bool.not_true,Ap]
 cases hat:(and (a.1==p.1) (and (a.2.1==p.2.1) true))with
 |true=>exact nope
 |false=>
 simp only[Ap]
 have ht:Af1 p n.1=Eb p n.1:=by unfold Af1;rw[ho,hn];rfl
 rw[ht]
 have hd':d.length=12:=by have:=eq_of_beq hd;omega
 have hn':=C6.1 hn
 have htn:=A0i p n.1
 have hto:=A5p (n:=n.1) ho
 have htl:(Eb p n.1).2.2.1.length≤A0 (Eb p n.1):=by simp only[A0];omega
 have h1:(Eb p n.1).1=p.1:=rfl
 have h2:(Eb p n.1).2.1=p.2.1:=rfl
 rw[Axx _ _ zq0]
 simp only[Ai]
 have hs:=X9 (B:=Kp) (Eb p n.1).2.2.1 (fun i=>(n.1,d,(i:Int),p.1,p.2.1,p.2.2.1,a.1,a.2.1,(0:Int),(0:Int),([]:List Am),(Eb p n.1).1,(Eb p n.1).2.1,(Eb p n.1).2.2.1,())) (fun _ x=>atA a.1 a.2.1 x) (fun _=>(false,p.1,p.2.1,p.2.2.1,())) (n.1,d,p.1,p.2.1,p.2.2.1,a.1,a.2.1,(0:Int),(0:Int),([]:List Am),(Eb p n.1).1,(Eb p n.1).2.1,(Eb p n.1).2.2.1,())
  (fun i x hi hx=>by
   unfold Kp
   simp (disch:=omega) only[Af,Ah,Ac,En hi,Az,Ce hx,Ai,w64]
   rw[show Ct (p.1,p.2.1,p.2.2.1,())=some p from Ov p h]
   rfl)
  (by unfold Kp;simp only[Af,Ac,Eo,Ap])
 rw[show Ay Kp (n.1,d,(0:Int),p.1,p.2.1,p.2.2.1,a.1,a.2.1,(0:Int),(0:Int),([]:List Am),(Eb p n.1).1,(Eb p n.1).2.1,(Eb p n.1).2.2.1,())=_ from hs]
 simp only[Ai]
 unfold Aw5
 cases hf:Lv (fun _ x=>atA a.1 a.2.1 x) (Eb p n.1).2.2.1 0 with
 |some k=>
  simp only[Option.elim,Bac]
  simp only[show((k:Int)≥0)=True from eq_true zq0,decide_true,Az]
  exact nope
 |none=>
  simp only[Option.elim,Ask]
  simp only[show((-1:Int)≥0)=False from eq_false zq0,decide_false,Ap]
  rw[show Ct (p.1,p.2.1,p.2.2.1,())=some p from Ov p h]
  simp only[Ai]
  cases hk:(((Eb p n.1).2.2.1.length:Int)==3)with
  |true=>exact nope
  |false=>
  simp only[Ap]
  have hp: ∃l,Eb p n.1=(p.1,p.2.1,l,()):=⟨_,rfl⟩
  obtain⟨l,hl⟩:=hp
  rw[hl]at hto hf hk htn htl ⊢
  obtain⟨q1,q2,q3,q4⟩:=Ks.1 hto
  simp only at hf hk htl ⊢
  have hk': ¬(l.length:Int)=3:=by simpa using hk
  rw[Dc _ zq2]
  simp only[Ai,List.nil_append,List.length_nil,Nat.zero_add,List.length_cons]
  rw[Al zq0,Al zq0,A5,A5,w64 zq0]
  refine⟨_,true,rfl,rfl,fun h=>(by cases h),?_,fun _=>⟨ho,Ks.2 ⟨q1,?_,?_,?_⟩⟩⟩
  ·simp only[A0]at htn ⊢
   simp only[A0,List.length_append,List.length_cons,List.length_nil,Af3,Cm,Cf]
   omega
  ·simp only[List.length_append,List.length_cons,List.length_nil];omega
  ·intro x hx
   rcases List.mem_append.1 hx with hx|hx
   ·exact q3 x hx
   ·simp only[List.mem_singleton]at hx
    subst hx
    exact⟨ha,hat,hd',by dsimp only;omega⟩
  ·rw[List.pairwise_append]
   refine⟨q4,List.pairwise_singleton _ _,fun x hx y hy=>?_⟩
   simp only[List.mem_singleton]at hy
   subst hy
   obtain⟨j,hj⟩:=List.getElem?_of_mem hx
   have:=Aj3.1 hf j x hj
   exact this
theorem Axy {E:Type} {q:E→Bool} {l:List E} {i:Nat} {x:E} (hx:l[i]? =some x) (hq:q x=false) (h: ∀j y,j≠i→l[j]? =some y→q y=true):l.filter q=l.take i++l.drop (i+1):=by
 obtain⟨hi,he⟩:=List.getElem?_eq_some_iff.1 hx
 have e:l=l.take i++(l[i]::l.drop (i+1)):=by rw[←List.drop_eq_getElem_cons hi,List.take_append_drop]
 have h1:(l.take i).filter q=l.take i:=by
  rw[List.filter_eq_self]
  intro y hy
  obtain⟨j,hj⟩:=List.getElem?_of_mem hy
  rw[List.getElem?_take]at hj
  split at hj
  ·exact h j y zq0 hj
  ·cases hj
 have h2:(l.drop (i+1)).filter q=l.drop (i+1):=by
  rw[List.filter_eq_self]
  intro y hy
  obtain⟨j,hj⟩:=List.getElem?_of_mem hy
  rw[List.getElem?_drop]at hj
  exact h (i+1+j) y zq0 hj
 conv=>lhs;rw[e]
 rw[List.filter_append,List.filter_cons_of_neg (by rw[he,hq];simp),h1,h2]
theorem A5q (p:A7) (n:YI) (a:Bw) (d:YBs) (h:A0 p≤4294967296): ∃p' b,Uq p n a d=some (p',(b,()))∧Ut p n a d=some (p',(b,()))∧OfH p n.1 p' b:=by
 have h':=h
 have hl0:p.2.2.1.length≤A0 p:=by simp only[A0];omega
 obtain⟨d,⟨⟩⟩:=d
 have nope: ∃p' b,some (p,(false,()))=some (p',(b,()))∧some (p,(false,()))=some (p',(b,()))∧OfH p n.1 p' b:=⟨p,false,rfl,rfl,fun _=>rfl,by omega,fun h=>by cases h⟩
 unfold Uq Aeq Ut Ae2 Ao1 Ae1
 simp only[Af,Ah,Ac,An,Hp]
 rw[Ajp p zq0,X6 p zq0,C9,C4,Ss p h,Ov p h,Axx p a zq0]
 simp only[Ai,Kr,Wz]
 cases ho:Fv p with
 |false=>exact nope
 |true=>
 obtain⟨a1,a2,l,⟨⟩⟩:=p
 obtain⟨q1,q2,q3,q4⟩:=Ks.1 ho
 simp only[A0]at h' hl0
 simp only[Bool.not_true,Ap]
 have hs:=X9 (B:=Jg) l (fun i=>((i:Int),a1,a2,l,a.1,a.2.1,(0:Int),(0:Int),([]:List YB),(0:Int),())) (fun _ x=>atA a.1 a.2.1 x) (fun i=>(true,(l[i]?.getD ((0:Int),(0:Int),[],(0:Int),())).1,(l[i]?.getD ((0:Int),(0:Int),[],(0:Int),())).2.1,(l[i]?.getD ((0:Int),(0:Int),[],(0:Int),())).2.2.1,(l[i]?.getD ((0:Int),(0:Int),[],(0:Int),())).2.2.2.1,())) ((0:Int),(0:Int),([]:List YB),(0:Int),())
  (fun i x hi hx=>by
   have hnx:=Aci (f:=Cf) hx
   unfold Jg
   simp (disch:=omega) only[Af,Ah,Ac,En hi,Az,Ce hx,Ai,w64]
   rw[X7 _ zq0,hx]
   rfl)
  (by unfold Jg;simp only[Af,Ac,Eo,Ap])
 rw[show Ay Jg ((0:Int),a1,a2,l,a.1,a.2.1,(0:Int),(0:Int),([]:List YB),(0:Int),())=_ from hs]
 simp only[Ai]
 unfold Aw5
 cases hf:Lv (fun _ x=>atA a.1 a.2.1 x) l 0 with
 |none=>
  simp only[Option.elim,Ask,Ai]
  cases inR n.1 0 1000000 with
  |false=>exact nope
  |true=>exact nope
 |some k=>
  obtain⟨j,x,hkj,hx,hq,hbef⟩:=At7 hf
  rw[Nat.zero_add]at hkj
  subst hkj
  have hxi:=(List.getElem?_eq_some_iff.1 hx).1
  have hxm:=List.mem_of_getElem? hx
  simp only[Option.elim,Bac,Ai,hx,Option.getD_some,Bool.not_true,Ap]
  cases hn:inR n.1 0 1000000 with
  |false=>exact nope
  |true=>
  simp only[Bool.not_true,Ap]
  simp only[show((k:Int)<0)=False from eq_false zq0,decide_false,Ap,Ce hx,Ai]
  rw[show E4 x.2.2.1 d=E4 d x.2.2.1 by unfold E4;exact decide_eq_decide.2 ⟨Eq.symm,Eq.symm⟩]
  cases hsd:E4 d x.2.2.1 with
  |false=>exact nope
  |true=>
  simp only[Bool.not_true,Ap]
  cases hu:decide (n.1>x.2.2.2.1)with
  |true=>exact nope
  |false=>
  simp only[Ap]
  have hother: ∀j y,j≠k→l[j]? =some y→(!atA a.1 a.2.1 y)=true:=by
   intro j y hj hy
   rw[Bool.not_eq_true']
   have e:=Ak5.1 hq
   obtain⟨k1,k2⟩:=List.getElem?_eq_some_iff.1 hy
   obtain⟨k3,k4⟩:=List.getElem?_eq_some_iff.1 hx
   rw[List.pairwise_iff_getElem]at q4
   rcases Nat.lt_or_gt_of_ne hj with hlt|hgt
   ·have:=hbef j y hlt hy
    exact this
   ·have:=q4 k j k3 k1 hgt
    rw[k4,k2]at this
    cases hy':atA a.1 a.2.1 y with
    |false=>rfl
    |true=>
     have e2:=Ak5.1 hy'
     rw[Ak5.2 ⟨e.1.trans e2.1.symm,e.2.trans e2.2.symm⟩]at this
     cases this
  have hsp:=Axy hx (q:=fun y=> !atA a.1 a.2.1 y) (by show(!atA a.1 a.2.1 x)=false;rw[show atA a.1 a.2.1 x=true from hq];rfl) hother
  have hl:=Cj (B:=Jh) l.length (fun i=>((i:Int),a1,a2,l,a.1,a.2.1,(0:Int),(0:Int),([]:List Am),a.1,a.2.1,(l.take i).filter (fun y=> !atA a.1 a.2.1 y),())) ((0:Int),(0:Int),([]:List Am),a.1,a.2.1,l.filter (fun y=> !atA a.1 a.2.1 y),())
   (fun i hi=>by
    have hx:=List.getElem?_eq_getElem hi
    have hle:=Aj0 (p:=fun y=> !atA a.1 a.2.1 y) (l:=l) (i:=i)
    have hs:=Aa9 (p:=fun y=> !atA a.1 a.2.1 y) hx
    have hn:=Aci (f:=Cf) hx
    unfold Jh
    simp only[Af,Ah,Ac,An,En hi,Az,Ce hx,Ai]
    rw[w64 zq0,hs,X7 _ zq0]
    simp only[Ai]
    have hp:(!atA a.1 a.2.1 l[i])= !(and (l[i].1==a.1) (and (l[i].2.1==a.2.1) true)):=rfl
    rw[hp]
    cases (!(and (l[i].1==a.1) (and (l[i].2.1==a.2.1) true)))with
    |false=>simp[Ap]
    |true=>
     simp only[Az,cond_true]
     rw[Al zq1,A5]
     rfl)
   (by unfold Jh;simp only[Af,Ac,Eo,Ap,List.take_length])
  rw[show Ay Jh ((0:Int),a1,a2,l,a.1,a.2.1,(0:Int),(0:Int),([]:List Am),a.1,a.2.1,([]:List Am),())=_ from hl]
  simp only[Ai]
  have w1:IntKind.i64.wrap ((k:Int)+1)=(k:Int)+1:=w64 zq0
  have w2:(((l.length:Nat):Int)).toNat=l.length:=by omega
  have w3:((k:Nat):Int).toNat=k:=by omega
  have w4:(((k:Nat):Int)+1).toNat=k+1:=by omega
  have w5:(l.take k).length+(l.drop (k+1)).length≤4294967296:=by simp only[List.length_take,List.length_drop];omega
  have w6:Nat.ble (l.take k).length (k+1)=true:=Nat.ble_eq_true_of_le (by simp only[List.length_take];omega)
  have w7:Nat.blt 0 l.length=true:=Nat.ble_eq_true_of_le zq0
  simp only[w1,hsp,show((0:Int)≤(k:Int))=True from eq_true zq0,show((k:Int)≤(l.length:Int))=True from eq_true zq0,show((0:Int)≤(k:Int)+1)=True from eq_true zq0,show((k:Int)+1≤(l.length:Int))=True from eq_true zq0,show((l.length:Int)≤(l.length:Int))=True from eq_true zq0,decide_true,A5,w2,w3,w4,Int.toNat_zero,List.drop_zero,List.take_length,eq_true w5,w6,w7]
  rw[←hsp]
  have e:=Ak5.1 hq
  refine⟨_,true,rfl,rfl,fun h=>(by cases h),?_,fun _=>⟨ho,Ks.2 ⟨?_,?_,?_,q4.filter _⟩⟩⟩
  ·have h1:=List.length_filter_le (fun y=> !atA a.1 a.2.1 y) l
   have h2:=Aba (f:=Cf) (p:=fun y=> !atA a.1 a.2.1 y) (l:=l)
   simp only[A0];omega
  ·have:=(q3 x hxm).1
   rw[e.1,e.2]at this
   exact this
  ·have h1:=List.length_filter_le (fun y=> !atA a.1 a.2.1 y) l
   omega
  ·intro y hy
   obtain⟨m1,m2⟩:=List.mem_filter.1 hy
   obtain⟨g1,g2,g3,g4⟩:=q3 y m1
   exact⟨g1,by have:atA a.1 a.2.1 y=false:=(by simpa using m2);exact this,g3,g4⟩
end
end Go.Proofs.YtmhhajdeafijmaaGreat
