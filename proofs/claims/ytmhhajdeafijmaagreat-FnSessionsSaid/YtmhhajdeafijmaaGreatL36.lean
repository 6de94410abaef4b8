/-
  That the program and the reference answer alike, in plain terms, and that the laws answer true.
-/
import Derived.Test.YtmhhajdeafijmaaGreatL35
namespace Go.Proofs.YtmhhajdeafijmaaGreat
open Go.RowKit
set_option linter.unusedVariables false
set_option linter.unusedSimpArgs false
set_option maxRecDepth 100000
set_option maxHeartbeats 4000000
noncomputable section
def Ama (a b:Int) (x:Ap):Prop:=Dp (x.1,x.2.1,())=true∧eqA x.1 x.2.1 a b=false∧x.2.2.1.length=12∧(0≤x.2.2.2.1∧x.2.2.2.1≤1000006)
theorem Gc {a b:Int} {l:List Ap}:Cq (a,b,l,())=true↔Dp (a,b,())=true∧l.length≤3∧(∀x∈l,Ama a b x)∧l.Pairwise (fun y x=>eqA y.1 y.2.1 x.1 x.2.1=false):=by
 have key:He (My a b l) l=true↔(∀x∈l,Ama a b x)∧l.Pairwise (fun y x=>eqA y.1 y.2.1 x.1 x.2.1=false):=by
  rw[Aje,List.pairwise_iff_getElem]
  unfold My Ama
  simp only[Bool.not_eq_false',Bool.and_eq_true,Bool.not_eq_true',beq_iff_eq,Bl,Aje]
  constructor
  ·intro h
   refine⟨fun x hx=>?_,fun i j hi hj hij=>?_⟩
   ·obtain⟨j,hj⟩:=List.getElem?_of_mem hx
    obtain⟨h1,h2,h3,h4,_⟩:=h j x hj
    exact⟨h1,h2,by omega,h4⟩
   ·obtain⟨_,_,_,_,h5⟩:=h j l[j] (List.getElem?_eq_getElem hj)
    exact h5 i l[i] (by rw[List.getElem?_take,if_pos hij];exact List.getElem?_eq_getElem hi)
  ·rintro⟨h1,h2⟩ j x hj
   obtain⟨g1,g2,g3,g4⟩:=h1 x (List.mem_of_getElem? hj)
   refine⟨g1,g2,by omega,g4,fun i y hi=>?_⟩
   rw[List.getElem?_take]at hi
   split at hi
   ·rename_i hlt
    obtain⟨k1,k2⟩:=List.getElem?_eq_some_iff.1 hi
    obtain⟨k3,k4⟩:=List.getElem?_eq_some_iff.1 hj
    have:=h2 i j k1 k3 hlt
    rw[k2,k4]at this
    exact this
   ·cases hi
 unfold Cq
 simp only[Bool.and_eq_true,Bool.not_eq_true',decide_eq_false_iff_not,key]
 constructor
 ·rintro⟨h1,h2,h3⟩;exact⟨h1,by omega,h3⟩
 ·rintro⟨h1,h2,h3⟩;exact⟨h1,by omega,h3⟩
def atA (a b:Int) (x:Ap):Bool:=eqA x.1 x.2.1 a b
theorem Aji {a b c d:Int}:eqA a b c d=true↔a=c∧b=d:=by unfold eqA;simp
theorem Ok (p:Bb) (a:B7) (h:p.2.2.1.length≤4294967296):Qc p a=some (Qv (atA a.1 a.2.1) p.2.2.1,()):=by
 obtain⟨b,d,l,⟨⟩⟩:=p
 simp only at h
 have hl:=Zg (B:=Lw) l (fun i=>(l,(l.length:Int),(i:Int),a.1,a.2.1,())) (fun _ x=>atA a.1 a.2.1 x) (fun i=>((i:Int),())) ()
  (fun i x hi hx=>by
   unfold Lw
   simp (disch:=omega) only[Ae,Ai,Ac,Ep hi,A0,Ca hx,Ag,w64]
   rfl)
  (by unfold Lw;simp only[Ae,Ac,Er,Am])
 unfold Qc Ad4
 simp only[Ai,Ac,G6]
 rw[show((0:Int))=((0:Nat):Int)from rfl,hl]
 exact A7r _ _
theorem A3h {p:Bb} {n:Int} (h:Cq p=true):Cq (Dc p n)=true:=by
 obtain⟨a,b,l,⟨⟩⟩:=p
 obtain⟨h1,h2,h3,h4⟩:=Gc.1 h
 refine Gc.2 ⟨h1,?_,fun x hx=>h3 x ((List.mem_filter.1 hx).1),h4.filter _⟩
 have:=List.length_filter_le (Iu n) l
 exact Nat.le_trans this h2
def OfH (p:Bb) (n:Int) (p':Bb) (b:Bool):Prop:=(b=false→p'=p)∧As p'≤As p+50∧(b=true→Cq p=true∧Cq p'=true)
theorem F5 (p:Bb) (n:YI) (a:B7) (d:YBs) (h:As p≤4294967296): ∃p' b,Cc p n a d=some (p',(b,()))∧Fa p n a d=some (p',(b,()))∧OfH p n.1 p' b:=by
 have h':=h
 have hl0:p.2.2.1.length≤As p:=by simp only[As];omega
 obtain⟨d,⟨⟩⟩:=d
 have nope: ∃p' b,some (p,(false,()))=some (p',(b,()))∧some (p,(false,()))=some (p',(b,()))∧OfH p n.1 p' b:=⟨p,false,rfl,rfl,fun _=>rfl,by omega,fun h=>by cases h⟩
 unfold Cc Tb Fa Ag0
 simp only[Ae,Ai,Ac,Aj,G6]
 rw[J2 p zq0,Za p zq0,Ch,Cw,Kf,Rs,Hk,Gb p h,O5 p h,Oj p n h,A04 p n h]
 simp only[Ag,bne]
 cases ho:Cq p with
 |false=>exact nope
 |true=>
 simp only[Bool.not_true,Am]
 cases hn:inR n.1 0 1000000 with
 |false=>exact nope
 |true=>
 simp only[Bool.not_true,Am]
 cases ha:Dp a with
 |false=>exact nope
 |true=>
 simp only[Bool.not_true,Am]
 cases hd:((d.length:Int)==12)with
 |false=>exact nope
 |true=>
 simp only[Bool.not_true,Am]
 cases hat:(and (a.1==p.1) (and (a.2.1==p.2.1) true))with
 |true=>exact nope
 |false=>
 simp only[Am]
 have ht:Me p n.1=Dc p n.1:=by unfold Me;rw[ho,hn];rfl
 rw[ht]
 have hd':d.length=12:=by have:=eq_of_beq hd;omega
 have hn':=Bl.1 hn
 have htn:=Aky p n.1
 have hto:=A3h (n:=n.1) ho
 have htl:(Dc p n.1).2.2.1.length≤As (Dc p n.1):=by simp only[As];omega
 have h1:(Dc p n.1).1=p.1:=rfl
 have h2:(Dc p n.1).2.1=p.2.1:=rfl
 rw[Ok _ _ zq0]
 simp only[Ag]
 have hs:=Zg (B:=K7) (Dc p n.1).2.2.1 (fun i=>(n.1,d,(i:Int),p.1,p.2.1,p.2.2.1,a.1,a.2.1,(0:Int),(0:Int),([]:List Ap),(Dc p n.1).1,(Dc p n.1).2.1,(Dc p n.1).2.2.1,())) (fun _ x=>atA a.1 a.2.1 x) (fun _=>(false,p.1,p.2.1,p.2.2.1,())) (n.1,d,p.1,p.2.1,p.2.2.1,a.1,a.2.1,(0:Int),(0:Int),([]:List Ap),(Dc p n.1).1,(Dc p n.1).2.1,(Dc p n.1).2.2.1,())
  (fun i x hi hx=>by
   unfold K7
   simp (disch:=omega) only[Ae,Ai,Ac,Ep hi,A0,Ca hx,Ag,w64]
   rw[show D3 (p.1,p.2.1,p.2.2.1,())=some p from O5 p h]
   rfl)
  (by unfold K7;simp only[Ae,Ac,Er,Am])
 rw[show Ay K7 (n.1,d,(0:Int),p.1,p.2.1,p.2.2.1,a.1,a.2.1,(0:Int),(0:Int),([]:List Ap),(Dc p n.1).1,(Dc p n.1).2.1,(Dc p n.1).2.2.1,())=_ from hs]
 simp only[Ag]
 unfold Qv
 cases hf:H6 (fun _ x=>atA a.1 a.2.1 x) (Dc p n.1).2.2.1 0 with
 |some k=>
  simp only[Option.elim,A75]
  simp only[show((k:Int)≥0)=True from eq_true zq0,decide_true,A0]
  exact nope
 |none=>
  simp only[Option.elim,Aqk]
  simp only[show((-1:Int)≥0)=False from eq_false zq0,decide_false,Am]
  rw[show D3 (p.1,p.2.1,p.2.2.1,())=some p from O5 p h]
  simp only[Ag]
  cases hk:(((Dc p n.1).2.2.1.length:Int)==3)with
  |true=>exact nope
  |false=>
  simp only[Am]
  have hp: ∃l,Dc p n.1=(p.1,p.2.1,l,()):=⟨_,rfl⟩
  obtain⟨l,hl⟩:=hp
  rw[hl]at hto hf hk htn htl ⊢
  obtain⟨q1,q2,q3,q4⟩:=Gc.1 hto
  simp only at hf hk htl ⊢
  have hk': ¬(l.length:Int)=3:=by simpa using hk
  rw[Cu _ zq2]
  simp only[Ag,List.nil_append,List.length_nil,Nat.zero_add,List.length_cons]
  rw[Ak zq0,Ak zq0,A8,A8,w64 zq0]
  refine⟨_,true,rfl,rfl,fun h=>(by cases h),?_,fun _=>⟨ho,Gc.2 ⟨q1,?_,?_,?_⟩⟩⟩
  ·simp only[As]at htn ⊢
   simp only[As,List.length_append,List.length_cons,List.length_nil,Ae8,Dd,D6]
   omega
  ·simp only[List.length_append,List.length_cons,List.length_nil];omega
  ·intro x hx
   rcases List.mem_append.1 hx with hx|hx
   ·exact q3 x hx
   ·simp only[List.mem_singleton]at hx
    subst hx
    exact⟨ha,hat,hd',by dsimp only;omega⟩
  ·rw[List.pairwise_append]
   refine⟨q4,List.pairwise_singleton _ _,fun x hx y hy=>?_⟩
   simp only[List.mem_singleton]at hy
   subst hy
   obtain⟨j,hj⟩:=List.getElem?_of_mem hx
   have:=To.1 hf j x hj
   exact this
theorem Avm {E:Type} {q:E→Bool} {l:List E} {i:Nat} {x:E} (hx:l[i]? =some x) (hq:q x=false) (h: ∀j y,j≠i→l[j]? =some y→q y=true):l.filter q=l.take i++l.drop (i+1):=by
 obtain⟨hi,he⟩:=List.getElem?_eq_some_iff.1 hx
 have e:l=l.take i++(l[i]::l.drop (i+1)):=by rw[←List.drop_eq_getElem_cons hi,List.take_append_drop]
 have h1:(l.take i).filter q=l.take i:=by
  rw[List.filter_eq_self]
  intro y hy
  obtain⟨j,hj⟩:=List.getElem?_of_mem hy
  rw[List.getElem?_take]at hj
  split at hj
  ·exact h j y zq0 hj
  ·cases hj
 have h2:(l.drop (i+1)).filter q=l.drop (i+1):=by
  rw[List.filter_eq_self]
  intro y hy
  obtain⟨j,hj⟩:=List.getElem?_of_mem hy
  rw[List.getElem?_drop]at hj
  exact h (i+1+j) y zq0 hj
 conv=>lhs;rw[e]
 rw[List.filter_append,List.filter_cons_of_neg (by rw[he,hq];simp),h1,h2]
theorem Ail (p:Bb) (n:YI) (a:B7) (d:YBs) (h:As p≤4294967296): ∃p' b,Kc p n a d=some (p',(b,()))∧V_s_Answer p n a d=some (p',(b,()))∧OfH p n.1 p' b:=by
 have h':=h
 have hl0:p.2.2.1.length≤As p:=by simp only[As];omega
 obtain⟨d,⟨⟩⟩:=d
 have nope: ∃p' b,some (p,(false,()))=some (p',(b,()))∧some (p,(false,()))=some (p',(b,()))∧OfH p n.1 p' b:=⟨p,false,rfl,rfl,fun _=>rfl,by omega,fun h=>by cases h⟩
 unfold Kc Ut V_s_Answer T_s_Answer V_s_CandOf T_s_CandOf
 simp only[Ae,Ai,Ac,Aj,G6]
 rw[J2 p zq0,Za p zq0,Ch,Cw,Gb p h,O5 p h,Ok p a zq0]
 simp only[Ag,Ns,Wv]
 cases ho:Cq p with
 |false=>exact nope
 |true=>
 obtain⟨a1,a2,l,⟨⟩⟩:=p
 obtain⟨q1,q2,q3,q4⟩:=Gc.1 ho
 simp only[As]at h' hl0
 simp only[Bool.not_true,Am]
 have hs:=Zg (B:=B_s_CandOf_4) l (fun i=>((i:Int),a1,a2,l,a.1,a.2.1,(0:Int),(0:Int),([]:List YB),(0:Int),())) (fun _ x=>atA a.1 a.2.1 x) (fun i=>(true,(l[i]?.getD ((0:Int),(0:Int),[],(0:Int),())).1,(l[i]?.getD ((0:Int),(0:Int),[],(0:Int),())).2.1,(l[i]?.getD ((0:Int),(0:Int),[],(0:Int),())).2.2.1,(l[i]?.getD ((0:Int),(0:Int),[],(0:Int),())).2.2.2.1,())) ((0:Int),(0:Int),([]:List YB),(0:Int),())
  (fun i x hi hx=>by
   have hnx:=Ab7 (f:=D6) hx
   unfold B_s_CandOf_4
   simp (disch:=omega) only[Ae,Ai,Ac,Ep hi,A0,Ca hx,Ag,w64]
   rw[Zc _ zq0,hx]
   rfl)
  (by unfold B_s_CandOf_4;simp only[Ae,Ac,Er,Am])
 rw[show Ay B_s_CandOf_4 ((0:Int),a1,a2,l,a.1,a.2.1,(0:Int),(0:Int),([]:List YB),(0:Int),())=_ from hs]
 simp only[Ag]
 unfold Qv
 cases hf:H6 (fun _ x=>atA a.1 a.2.1 x) l 0 with
 |none=>
  simp only[Option.elim,Aqk,Ag]
  cases inR n.1 0 1000000 with
  |false=>exact nope
  |true=>exact nope
 |some k=>
  obtain⟨j,x,hkj,hx,hq,hbef⟩:=Zb hf
  rw[Nat.zero_add]at hkj
  subst hkj
  have hxi:=(List.getElem?_eq_some_iff.1 hx).1
  have hxm:=List.mem_of_getElem? hx
  simp only[Option.elim,A75,Ag,hx,Option.getD_some,Bool.not_true,Am]
  cases hn:inR n.1 0 1000000 with
  |false=>exact nope
  |true=>
  simp only[Bool.not_true,Am]
  simp only[show((k:Int)<0)=False from eq_false zq0,decide_false,Am,Ca hx,Ag]
  rw[show Ew x.2.2.1 d=Ew d x.2.2.1 by unfold Ew;exact decide_eq_decide.2 ⟨Eq.symm,Eq.symm⟩]
  cases hsd:Ew d x.2.2.1 with
  |false=>exact nope
  |true=>
  simp only[Bool.not_true,Am]
  cases hu:decide (n.1>x.2.2.2.1)with
  |true=>exact nope
  |false=>
  simp only[Am]
  have hother: ∀j y,j≠k→l[j]? =some y→(!atA a.1 a.2.1 y)=true:=by
   intro j y hj hy
   rw[Bool.not_eq_true']
   have e:=Aji.1 hq
   obtain⟨k1,k2⟩:=List.getElem?_eq_some_iff.1 hy
   obtain⟨k3,k4⟩:=List.getElem?_eq_some_iff.1 hx
   rw[List.pairwise_iff_getElem]at q4
   rcases Nat.lt_or_gt_of_ne hj with hlt|hgt
   ·have:=hbef j y hlt hy
    exact this
   ·have:=q4 k j k3 k1 hgt
    rw[k4,k2]at this
    cases hy':atA a.1 a.2.1 y with
    |false=>rfl
    |true=>
     have e2:=Aji.1 hy'
     rw[Aji.2 ⟨e.1.trans e2.1.symm,e.2.trans e2.2.symm⟩]at this
     cases this
  have hsp:=Avm hx (q:=fun y=> !atA a.1 a.2.1 y) (by show(!atA a.1 a.2.1 x)=false;rw[show atA a.1 a.2.1 x=true from hq];rfl) hother
  have hl:=Cn (B:=B_s_Answer_6) l.length (fun i=>((i:Int),a1,a2,l,a.1,a.2.1,(0:Int),(0:Int),([]:List Ap),a.1,a.2.1,(l.take i).filter (fun y=> !atA a.1 a.2.1 y),())) ((0:Int),(0:Int),([]:List Ap),a.1,a.2.1,l.filter (fun y=> !atA a.1 a.2.1 y),())
   (fun i hi=>by
    have hx:=List.getElem?_eq_getElem hi
    have hle:=Aif (p:=fun y=> !atA a.1 a.2.1 y) (l:=l) (i:=i)
    have hs:=Aa3 (p:=fun y=> !atA a.1 a.2.1 y) hx
    have hn:=Ab7 (f:=D6) hx
    unfold B_s_Answer_6
    simp only[Ae,Ai,Ac,Aj,Ep hi,A0,Ca hx,Ag]
    rw[w64 zq0,hs,Zc _ zq0]
    simp only[Ag]
    have hp:(!atA a.1 a.2.1 l[i])= !(and (l[i].1==a.1) (and (l[i].2.1==a.2.1) true)):=rfl
    rw[hp]
    cases (!(and (l[i].1==a.1) (and (l[i].2.1==a.2.1) true)))with
    |false=>simp[Am]
    |true=>
     simp only[A0,cond_true]
     rw[Ak zq1,A8]
     rfl)
   (by unfold B_s_Answer_6;simp only[Ae,Ac,Er,Am,List.take_length])
  rw[show Ay B_s_Answer_6 ((0:Int),a1,a2,l,a.1,a.2.1,(0:Int),(0:Int),([]:List Ap),a.1,a.2.1,([]:List Ap),())=_ from hl]
  simp only[Ag]
  have w1:IntKind.i64.wrap ((k:Int)+1)=(k:Int)+1:=w64 zq0
  have w2:(((l.length:Nat):Int)).toNat=l.length:=by omega
  have w3:((k:Nat):Int).toNat=k:=by omega
  have w4:(((k:Nat):Int)+1).toNat=k+1:=by omega
  have w5:(l.take k).length+(l.drop (k+1)).length≤4294967296:=by simp only[List.length_take,List.length_drop];omega
  have w6:Nat.ble (l.take k).length (k+1)=true:=Nat.ble_eq_true_of_le (by simp only[List.length_take];omega)
  have w7:Nat.blt 0 l.length=true:=Nat.ble_eq_true_of_le zq0
  simp only[w1,hsp,show((0:Int)≤(k:Int))=True from eq_true zq0,show((k:Int)≤(l.length:Int))=True from eq_true zq0,show((0:Int)≤(k:Int)+1)=True from eq_true zq0,show((k:Int)+1≤(l.length:Int))=True from eq_true zq0,show((l.length:Int)≤(l.length:Int))=True from eq_true zq0,decide_true,A8,w2,w3,w4,Int.toNat_zero,List.drop_zero,List.take_length,eq_true w5,w6,w7]
  rw[←hsp]
  have e:=Aji.1 hq
  refine⟨_,true,rfl,rfl,fun h=>(by cases h),?_,fun _=>⟨ho,Gc.2 ⟨?_,?_,?_,q4.filter _⟩⟩⟩
  ·have h1:=List.length_filter_le (fun y=> !atA a.1 a.2.1 y) l
   have h2:=Aa4 (f:=D6) (p:=fun y=> !atA a.1 a.2.1 y) (l:=l)
   simp only[As];omega
  ·have:=(q3 x hxm).1
   rw[e.1,e.2]at this
   exact this
  ·have h1:=List.length_filter_le (fun y=> !atA a.1 a.2.1 y) l
   omega
  ·intro y hy
   obtain⟨m1,m2⟩:=List.mem_filter.1 hy
   obtain⟨g1,g2,g3,g4⟩:=q3 y m1
   exact⟨g1,by have:atA a.1 a.2.1 y=false:=(by simpa using m2);exact this,g3,g4⟩
end
end Go.Proofs.YtmhhajdeafijmaaGreat
