/-
  That the program and the reference answer alike, in plain terms, and that the laws answer true.
-/
import Derived.Test.YtmhhajdeafijmaaGreatL35
namespace Go.Proofs.YtmhhajdeafijmaaGreat
open Go.RowKit
set_option linter.unusedVariables false
set_option linter.unusedSimpArgs false
set_option maxRecDepth 100000
set_option maxHeartbeats 4000000
noncomputable section
def An0 (a b:Int) (x:Al):Prop:=Du (x.1,x.2.1,())=true∧eqA x.1 x.2.1 a b=false∧x.2.2.1.length=12∧(0≤x.2.2.2.1∧x.2.2.2.1≤1000006)
theorem Gf {a b:Int} {l:List Al}:Ct (a,b,l,())=true↔Du (a,b,())=true∧l.length≤3∧(∀x∈l,An0 a b x)∧l.Pairwise (fun y x=>eqA y.1 y.2.1 x.1 x.2.1=false):=by
 have key:Hj (Nj a b l) l=true↔(∀x∈l,An0 a b x)∧l.Pairwise (fun y x=>eqA y.1 y.2.1 x.1 x.2.1=false):=by
  rw[Akp,List.pairwise_iff_getElem]
  unfold Nj An0
  simp only[Bool.not_eq_false',Bool.and_eq_true,Bool.not_eq_true',beq_iff_eq,Bp,Akp]
  constructor
  ·intro h
   refine⟨fun x hx=>?_,fun i j hi hj hij=>?_⟩
   ·obtain⟨j,hj⟩:=List.getElem?_of_mem hx
    obtain⟨h1,h2,h3,h4,_⟩:=h j x hj
    exact⟨h1,h2,by omega,h4⟩
   ·obtain⟨_,_,_,_,h5⟩:=h j l[j] (List.getElem?_eq_getElem hj)
    exact h5 i l[i] (by rw[List.getElem?_take,if_pos hij];exact List.getElem?_eq_getElem hi)
  ·rintro⟨h1,h2⟩ j x hj
   obtain⟨g1,g2,g3,g4⟩:=h1 x (List.mem_of_getElem? hj)
   refine⟨g1,g2,by omega,g4,fun i y hi=>?_⟩
   rw[List.getElem?_take]at hi
   split at hi
   ·rename_i hlt
    obtain⟨k1,k2⟩:=List.getElem?_eq_some_iff.1 hi
    obtain⟨k3,k4⟩:=List.getElem?_eq_some_iff.1 hj
    have:=h2 i j k1 k3 hlt
    rw[k2,k4]at this
    exact this
   ·cases hi
 unfold Ct
 simp only[Bool.and_eq_true,Bool.not_eq_true',decide_eq_false_iff_not,key]
 constructor
 ·rintro⟨h1,h2,h3⟩;exact⟨h1,by omega,h3⟩
 ·rintro⟨h1,h2,h3⟩;exact⟨h1,by omega,h3⟩
def atA (a b:Int) (x:Al):Bool:=eqA x.1 x.2.1 a b
theorem Akt {a b c d:Int}:eqA a b c d=true↔a=c∧b=d:=by unfold eqA;simp
theorem O9 (p:A9) (a:Bu) (h:p.2.2.1.length≤4294967296):Q9 p a=some (Rg (atA a.1 a.2.1) p.2.2.1,()):=by
 obtain⟨b,d,l,⟨⟩⟩:=p
 simp only at h
 have hl:=Z4 (B:=Mg) l (fun i=>(l,(l.length:Int),(i:Int),a.1,a.2.1,())) (fun _ x=>atA a.1 a.2.1 x) (fun i=>((i:Int),())) ()
  (fun i x hi hx=>by
   unfold Mg
   simp (disch:=omega) only[Ae,Ai,Ac,Et hi,A0,Cb hx,Ag,w64]
   rfl)
  (by unfold Mg;simp only[Ae,Ac,Eu,An])
 unfold Q9 Ae2
 simp only[Ai,Ac,Hb]
 rw[show((0:Int))=((0:Nat):Int)from rfl,hl]
 exact A9x _ _
theorem A5n {p:A9} {n:Int} (h:Ct p=true):Ct (De p n)=true:=by
 obtain⟨a,b,l,⟨⟩⟩:=p
 obtain⟨h1,h2,h3,h4⟩:=Gf.1 h
 refine Gf.2 ⟨h1,?_,fun x hx=>h3 x ((List.mem_filter.1 hx).1),h4.filter _⟩
 have:=List.length_filter_le (I3 n) l
 exact Nat.le_trans this h2
def OfH (p:A9) (n:Int) (p':A9) (b:Bool):Prop:=(b=false→p'=p)∧Au p'≤Au p+50∧(b=true→Ct p=true∧Ct p'=true)
theorem F8 (p:A9) (n:YI) (a:Bu) (d:YBs) (h:Au p≤4294967296): ∃p' b,Cd p n a d=some (p',(b,()))∧Df p n a d=some (p',(b,()))∧OfH p n.1 p' b:=by
 have h':=h
 have hl0:p.2.2.1.length≤Au p:=by simp only[Au];omega
 obtain⟨d,⟨⟩⟩:=d
 have nope: ∃p' b,some (p,(false,()))=some (p',(b,()))∧some (p,(false,()))=some (p',(b,()))∧OfH p n.1 p' b:=⟨p,false,rfl,rfl,fun _=>rfl,by omega,fun h=>by cases h⟩
 unfold Cd T0 Df Aig
 simp only[Ae,Ai,Ac,Ak,Hb]
 rw[Kc p zq0,Zy p zq0,Cj,Cz,Kq,Sp,Hp,Ge p h,Po p h,O8 p n h,A3a p n h]
 simp only[Ag,bne]
 cases ho:Ct p with
 |false=>exact nope
 |true=>
 simp only[Bool.not_true,An]
 cases hn:inR n.1 0 1000000 with
 |false=>exact nope
 |true=>
 simp only[Bool.not_true,An]
 cases ha:Du a with
 |false=>exact nope
 |true=>
 simp only[Bool.not_true,An]
 cases hd:((d.length:Int)==12)with
 |false=>exact nope
 |true=>
 simp only[Bool.not_true,An]
 cases hat:(and (a.1==p.1) (and (a.2.1==p.2.1) true))with
 |true=>exact nope
 |false=>
 simp only[An]
 have ht:Mt p n.1=De p n.1:=by unfold Mt;rw[ho,hn];rfl
 rw[ht]
 have hd':d.length=12:=by have:=eq_of_beq hd;omega
 have hn':=Bp.1 hn
 have htn:=Ami p n.1
 have hto:=A5n (n:=n.1) ho
 have htl:(De p n.1).2.2.1.length≤Au (De p n.1):=by simp only[Au];omega
 have h1:(De p n.1).1=p.1:=rfl
 have h2:(De p n.1).2.1=p.2.1:=rfl
 rw[O9 _ _ zq0]
 simp only[Ag]
 have hs:=Z4 (B:=Lj) (De p n.1).2.2.1 (fun i=>(n.1,d,(i:Int),p.1,p.2.1,p.2.2.1,a.1,a.2.1,(0:Int),(0:Int),([]:List Al),(De p n.1).1,(De p n.1).2.1,(De p n.1).2.2.1,())) (fun _ x=>atA a.1 a.2.1 x) (fun _=>(false,p.1,p.2.1,p.2.2.1,())) (n.1,d,p.1,p.2.1,p.2.2.1,a.1,a.2.1,(0:Int),(0:Int),([]:List Al),(De p n.1).1,(De p n.1).2.1,(De p n.1).2.2.1,())
  (fun i x hi hx=>by
   unfold Lj
   simp (disch:=omega) only[Ae,Ai,Ac,Et hi,A0,Cb hx,Ag,w64]
   rw[show C5 (p.1,p.2.1,p.2.2.1,())=some p from Po p h]
   rfl)
  (by unfold Lj;simp only[Ae,Ac,Eu,An])
 rw[show Ay Lj (n.1,d,(0:Int),p.1,p.2.1,p.2.2.1,a.1,a.2.1,(0:Int),(0:Int),([]:List Al),(De p n.1).1,(De p n.1).2.1,(De p n.1).2.2.1,())=_ from hs]
 simp only[Ag]
 unfold Rg
 cases hf:Id (fun _ x=>atA a.1 a.2.1 x) (De p n.1).2.2.1 0 with
 |some k=>
  simp only[Option.elim,Bab]
  simp only[show((k:Int)≥0)=True from eq_true zq0,decide_true,A0]
  exact nope
 |none=>
  simp only[Option.elim,Asg]
  simp only[show((-1:Int)≥0)=False from eq_false zq0,decide_false,An]
  rw[show C5 (p.1,p.2.1,p.2.2.1,())=some p from Po p h]
  simp only[Ag]
  cases hk:(((De p n.1).2.2.1.length:Int)==3)with
  |true=>exact nope
  |false=>
  simp only[An]
  have hp: ∃l,De p n.1=(p.1,p.2.1,l,()):=⟨_,rfl⟩
  obtain⟨l,hl⟩:=hp
  rw[hl]at hto hf hk htn htl ⊢
  obtain⟨q1,q2,q3,q4⟩:=Gf.1 hto
  simp only at hf hk htl ⊢
  have hk': ¬(l.length:Int)=3:=by simpa using hk
  rw[Cw _ zq2]
  simp only[Ag,List.nil_append,List.length_nil,Nat.zero_add,List.length_cons]
  rw[Am zq0,Am zq0,Ba,Ba,w64 zq0]
  refine⟨_,true,rfl,rfl,fun h=>(by cases h),?_,fun _=>⟨ho,Gf.2 ⟨q1,?_,?_,?_⟩⟩⟩
  ·simp only[Au]at htn ⊢
   simp only[Au,List.length_append,List.length_cons,List.length_nil,Af8,Dg,Ea]
   omega
  ·simp only[List.length_append,List.length_cons,List.length_nil];omega
  ·intro x hx
   rcases List.mem_append.1 hx with hx|hx
   ·exact q3 x hx
   ·simp only[List.mem_singleton]at hx
    subst hx
    exact⟨ha,hat,hd',by dsimp only;omega⟩
  ·rw[List.pairwise_append]
   refine⟨q4,List.pairwise_singleton _ _,fun x hx y hy=>?_⟩
   simp only[List.mem_singleton]at hy
   subst hy
   obtain⟨j,hj⟩:=List.getElem?_of_mem hx
   have:=Ud.1 hf j x hj
   exact this
theorem Axq {E:Type} {q:E→Bool} {l:List E} {i:Nat} {x:E} (hx:l[i]? =some x) (hq:q x=false) (h: ∀j y,j≠i→l[j]? =some y→q y=true):l.filter q=l.take i++l.drop (i+1):=by
 obtain⟨hi,he⟩:=List.getElem?_eq_some_iff.1 hx
 have e:l=l.take i++(l[i]::l.drop (i+1)):=by rw[←List.drop_eq_getElem_cons hi,List.take_append_drop]
 have h1:(l.take i).filter q=l.take i:=by
  rw[List.filter_eq_self]
  intro y hy
  obtain⟨j,hj⟩:=List.getElem?_of_mem hy
  rw[List.getElem?_take]at hj
  split at hj
  ·exact h j y zq0 hj
  ·cases hj
 have h2:(l.drop (i+1)).filter q=l.drop (i+1):=by
  rw[List.filter_eq_self]
  intro y hy
  obtain⟨j,hj⟩:=List.getElem?_of_mem hy
  rw[List.getElem?_drop]at hj
  exact h (i+1+j) y zq0 hj
 conv=>lhs;rw[e]
 rw[List.filter_append,List.filter_cons_of_neg (by rw[he,hq];simp),h1,h2]
theorem Ajw (p:A9) (n:YI) (a:Bu) (d:YBs) (h:Au p≤4294967296): ∃p' b,Ko p n a d=some (p',(b,()))∧Vr p n a d=some (p',(b,()))∧OfH p n.1 p' b:=by
 have h':=h
 have hl0:p.2.2.1.length≤Au p:=by simp only[Au];omega
 obtain⟨d,⟨⟩⟩:=d
 have nope: ∃p' b,some (p,(false,()))=some (p',(b,()))∧some (p,(false,()))=some (p',(b,()))∧OfH p n.1 p' b:=⟨p,false,rfl,rfl,fun _=>rfl,by omega,fun h=>by cases h⟩
 unfold Ko Ve Vr Ap8 Ap7 Ap6
 simp only[Ae,Ai,Ac,Ak,Hb]
 rw[Kc p zq0,Zy p zq0,Cj,Cz,Ge p h,Po p h,O9 p a zq0]
 simp only[Ag,Oa,Xi]
 cases ho:Ct p with
 |false=>exact nope
 |true=>
 obtain⟨a1,a2,l,⟨⟩⟩:=p
 obtain⟨q1,q2,q3,q4⟩:=Gf.1 ho
 simp only[Au]at h' hl0
 simp only[Bool.not_true,An]
 have hs:=Z4 (B:=Mn) l (fun i=>((i:Int),a1,a2,l,a.1,a.2.1,(0:Int),(0:Int),([]:List YB),(0:Int),())) (fun _ x=>atA a.1 a.2.1 x) (fun i=>(true,(l[i]?.getD ((0:Int),(0:Int),[],(0:Int),())).1,(l[i]?.getD ((0:Int),(0:Int),[],(0:Int),())).2.1,(l[i]?.getD ((0:Int),(0:Int),[],(0:Int),())).2.2.1,(l[i]?.getD ((0:Int),(0:Int),[],(0:Int),())).2.2.2.1,())) ((0:Int),(0:Int),([]:List YB),(0:Int),())
  (fun i x hi hx=>by
   have hnx:=Ac5 (f:=Ea) hx
   unfold Mn
   simp (disch:=omega) only[Ae,Ai,Ac,Et hi,A0,Cb hx,Ag,w64]
   rw[Z0 _ zq0,hx]
   rfl)
  (by unfold Mn;simp only[Ae,Ac,Eu,An])
 rw[show Ay Mn ((0:Int),a1,a2,l,a.1,a.2.1,(0:Int),(0:Int),([]:List YB),(0:Int),())=_ from hs]
 simp only[Ag]
 unfold Rg
 cases hf:Id (fun _ x=>atA a.1 a.2.1 x) l 0 with
 |none=>
  simp only[Option.elim,Asg,Ag]
  cases inR n.1 0 1000000 with
  |false=>exact nope
  |true=>exact nope
 |some k=>
  obtain⟨j,x,hkj,hx,hq,hbef⟩:=Zz hf
  rw[Nat.zero_add]at hkj
  subst hkj
  have hxi:=(List.getElem?_eq_some_iff.1 hx).1
  have hxm:=List.mem_of_getElem? hx
  simp only[Option.elim,Bab,Ag,hx,Option.getD_some,Bool.not_true,An]
  cases hn:inR n.1 0 1000000 with
  |false=>exact nope
  |true=>
  simp only[Bool.not_true,An]
  simp only[show((k:Int)<0)=False from eq_false zq0,decide_false,An,Cb hx,Ag]
  rw[show Ez x.2.2.1 d=Ez d x.2.2.1 by unfold Ez;exact decide_eq_decide.2 ⟨Eq.symm,Eq.symm⟩]
  cases hsd:Ez d x.2.2.1 with
  |false=>exact nope
  |true=>
  simp only[Bool.not_true,An]
  cases hu:decide (n.1>x.2.2.2.1)with
  |true=>exact nope
  |false=>
  simp only[An]
  have hother: ∀j y,j≠k→l[j]? =some y→(!atA a.1 a.2.1 y)=true:=by
   intro j y hj hy
   rw[Bool.not_eq_true']
   have e:=Akt.1 hq
   obtain⟨k1,k2⟩:=List.getElem?_eq_some_iff.1 hy
   obtain⟨k3,k4⟩:=List.getElem?_eq_some_iff.1 hx
   rw[List.pairwise_iff_getElem]at q4
   rcases Nat.lt_or_gt_of_ne hj with hlt|hgt
   ·have:=hbef j y hlt hy
    exact this
   ·have:=q4 k j k3 k1 hgt
    rw[k4,k2]at this
    cases hy':atA a.1 a.2.1 y with
    |false=>rfl
    |true=>
     have e2:=Akt.1 hy'
     rw[Akt.2 ⟨e.1.trans e2.1.symm,e.2.trans e2.2.symm⟩]at this
     cases this
  have hsp:=Axq hx (q:=fun y=> !atA a.1 a.2.1 y) (by show(!atA a.1 a.2.1 x)=false;rw[show atA a.1 a.2.1 x=true from hq];rfl) hother
  have hl:=Cp (B:=Mo) l.length (fun i=>((i:Int),a1,a2,l,a.1,a.2.1,(0:Int),(0:Int),([]:List Al),a.1,a.2.1,(l.take i).filter (fun y=> !atA a.1 a.2.1 y),())) ((0:Int),(0:Int),([]:List Al),a.1,a.2.1,l.filter (fun y=> !atA a.1 a.2.1 y),())
   (fun i hi=>by
    have hx:=List.getElem?_eq_getElem hi
    have hle:=Ajq (p:=fun y=> !atA a.1 a.2.1 y) (l:=l) (i:=i)
    have hs:=Abt (p:=fun y=> !atA a.1 a.2.1 y) hx
    have hn:=Ac5 (f:=Ea) hx
    unfold Mo
    simp only[Ae,Ai,Ac,Ak,Et hi,A0,Cb hx,Ag]
    rw[w64 zq0,hs,Z0 _ zq0]
    simp only[Ag]
    have hp:(!atA a.1 a.2.1 l[i])= !(and (l[i].1==a.1) (and (l[i].2.1==a.2.1) true)):=rfl
    rw[hp]
    cases (!(and (l[i].1==a.1) (and (l[i].2.1==a.2.1) true)))with
    |false=>simp[An]
    |true=>
     simp only[A0,cond_true]
     rw[Am zq1,Ba]
     rfl)
   (by unfold Mo;simp only[Ae,Ac,Eu,An,List.take_length])
  rw[show Ay Mo ((0:Int),a1,a2,l,a.1,a.2.1,(0:Int),(0:Int),([]:List Al),a.1,a.2.1,([]:List Al),())=_ from hl]
  simp only[Ag]
  have w1:IntKind.i64.wrap ((k:Int)+1)=(k:Int)+1:=w64 zq0
  have w2:(((l.length:Nat):Int)).toNat=l.length:=by omega
  have w3:((k:Nat):Int).toNat=k:=by omega
  have w4:(((k:Nat):Int)+1).toNat=k+1:=by omega
  have w5:(l.take k).length+(l.drop (k+1)).length≤4294967296:=by simp only[List.length_take,List.length_drop];omega
  have w6:Nat.ble (l.take k).length (k+1)=true:=Nat.ble_eq_true_of_le (by simp only[List.length_take];omega)
  have w7:Nat.blt 0 l.length=true:=Nat.ble_eq_true_of_le zq0
  simp only[w1,hsp,show((0:Int)≤(k:Int))=True from eq_true zq0,show((k:Int)≤(l.length:Int))=True from eq_true zq0,show((0:Int)≤(k:Int)+1)=True from eq_true zq0,show((k:Int)+1≤(l.length:Int))=True from eq_true zq0,show((l.length:Int)≤(l.length:Int))=True from eq_true zq0,decide_true,Ba,w2,w3,w4,Int.toNat_zero,List.drop_zero,List.take_length,eq_true w5,w6,w7]
  rw[←hsp]
  have e:=Akt.1 hq
  refine⟨_,true,rfl,rfl,fun h=>(by cases h),?_,fun _=>⟨ho,Gf.2 ⟨?_,?_,?_,q4.filter _⟩⟩⟩
  ·have h1:=List.length_filter_le (fun y=> !atA a.1 a.2.1 y) l
   have h2:=Abu (f:=Ea) (p:=fun y=> !atA a.1 a.2.1 y) (l:=l)
   simp only[Au];omega
  ·have:=(q3 x hxm).1
   rw[e.1,e.2]at this
   exact this
  ·have h1:=List.length_filter_le (fun y=> !atA a.1 a.2.1 y) l
   omega
  ·intro y hy
   obtain⟨m1,m2⟩:=List.mem_filter.1 hy
   obtain⟨g1,g2,g3,g4⟩:=q3 y m1
   exact⟨g1,by have:atA a.1 a.2.1 y=false:=(by simpa using m2);exact this,g3,g4⟩
end
end Go.Proofs.YtmhhajdeafijmaaGreat
