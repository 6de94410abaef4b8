/-
  That the program and the reference answer alike, in plain terms, and that the laws answer true.
-/
import Derived.Test.YthccfdmiejmbaaaDoorL113
namespace Go.Proofs.YthccfdmiejmbaaaDoor
open Go.RowKit
set_option linter.unusedVariables false
set_option linter.unusedSimpArgs false
set_option maxRecDepth 100000
set_option maxHeartbeats 8000000
noncomputable section
theorem Aeb {E:Type} {p:E->Bool} {l:List E} {i:Nat} {x:E} (hx:l[i]? =some x) (hp:p x=true):(l.filter p)[((l.take i).filter p).length]? =some x:=by
 have h1:l.filter p=(l.take (i+1)).filter p++(l.drop (i+1)).filter p:=by
  rw[<-List.filter_append,List.take_append_drop]
 rw[h1,Ml hx,hp]
 simp
theorem Uh {l:List Ag} (h: ∀w∈l,w.2.2.2.2.1.length<=300):F6 Do l<=300*l.length:=by
 induction l with
 |nil=>simp[F6]
 |cons x r ih=>
  have h1:=ih (fun w hw=>h w (List.mem_cons_of_mem _ hw))
  have h2:=h x (by simp)
  simp only[F6,Do,List.length_cons]at h1 ⊢
  omega
theorem Acv (l x m:List Ag) (a b:Bt) (w:Ag) (hm:m.length<=1000):
  Ay Dx (l,x,m,m.filter (F8 a b),(0:Int),(0:Int),w.1,w.2.1,w.2.2.1,w.2.2.2.1,w.2.2.2.2.1,a.1,a.2.1,b.1,b.2.1,())=
   some (.inr (l,x,m.filter (F8 a b),((m.filter (F8 a b)).length:Int),w.1,w.2.1,w.2.2.1,w.2.2.2.1,w.2.2.2.2.1,())):=by
 have hl:=E4 (B:=Dx) m.length (fun i=>(l,x,m,m.filter (F8 a b),(((m.take i).filter (F8 a b)).length:Int),(i:Int),w.1,w.2.1,w.2.2.1,w.2.2.2.1,w.2.2.2.2.1,a.1,a.2.1,b.1,b.2.1,()))
  (.inr (l,x,m.filter (F8 a b),((m.filter (F8 a b)).length:Int),w.1,w.2.1,w.2.2.1,w.2.2.2.1,w.2.2.2.2.1,()))
  (fun i hi=>by
   have hx:=List.getElem?_eq_getElem hi
   have hle:=Wn (p:=F8 a b) (l:=m) (i:=i)
   have hs:=Ml (p:=F8 a b) hx
   have hp:F8 a b m[i]=(eqA m[i].1 m[i].2.1 a.1 a.2.1 && eqA m[i].2.2.1 m[i].2.2.2.1 b.1 b.2.1):=rfl
   have hat:=fun h=>Aeb (p:=F8 a b) hx h
   unfold Dx
   simp only[Am,Ar,Ad,Aw,K2 hi,Bo,D2 hx,As]
   rw[w64 (n:=(i:Int)+1) zq1]
   rw[hs,hp]
   rw[hp]at hat
   unfold eqA at hat ⊢
   cases h1:(and (m[i].1==a.1) (and (m[i].2.1==a.2.1) true))with
   |false=>simp[A9]
   |true=>
    rw[h1]at hat
    cases h2:(and (m[i].2.2.1==b.1) (and (m[i].2.2.2.1==b.2.1) true))with
    |false=>simp[A9,Bo]
    |true=>
     rw[h2]at hat
     have hat:=hat rfl
     have hlt:=(List.getElem?_eq_some_iff.1 hat).1
     simp only[Bo,Bool.and_self,cond_true]
     rw[Df zq1,A9,D2 hat,As,R3,As,Bool.not_true,A9,w64 zq1]
     simp)
  (by unfold Dx;simp only[Am,Ad,K3,A9,List.take_length])
 exact hl
theorem K4 (l:List Ag) (h:l.length<=1000):Hb (l,()) (l,())=some (true,()):=by
 have hl:=E4 (B:=De) l.length (fun i=>(l,l,(i:Int),())) (.inr ())
  (fun i hi=>by
   have hx:=List.getElem?_eq_getElem hi
   unfold De
   simp only[Am,Ar,Ad,Aw,K2 hi,Bo,D2 hx,As,beq_self_eq_true,Bool.and_self,Bool.not_true,A9,R3]
   rw[w64 zq1]
   rfl)
  (by unfold De;simp only[Am,Ad,K3,A9])
 unfold Hb Jy
 simp only[Am,Ar,Ad,T8,bne_self_eq_false,A9]
 rw[show Ay De (l,l,(0:Int),())=_ from hl]
 rfl
theorem Zj (l:List Ag) (w:Ag) (h:Cz l=false\/Ej w=false\/l.length=90):see l w=l:=by
 unfold see
 have:Cz (l++[w])=false:=by
  cases hc:Cz (l++[w])with
  |false=>rfl
  |true=>
   exfalso
   unfold Cz at hc h
   rw[T9,Bool.and_eq_true,Bool.and_eq_true]at hc
   obtain⟨⟨h1,h2⟩,h3⟩:=hc
   have h3:=of_decide_eq_true h3
   simp at h3 h2
   rcases h with h|h|h
   .rw[h1]at h
    simp at h
    omega
   .rw[h]at h2;cases h2
   .omega
 rw[this]
 rfl
theorem Aht (l:List Ag) (w:Ag) (h1:Cz l=true) (h2:Ej w=true) (h3:l.length≠90):see l w=l++[w]/\Cz (l++[w])=true:=by
 have:Cz (l++[w])=true:=by
  unfold Cz at h1 ⊢
  rw[T9]
  simp only[Bool.and_eq_true,decide_eq_true_eq]at h1 ⊢
  refine⟨⟨h1.1,by rw[h2];rfl⟩,?_⟩
  have:=h1.2
  simp
  omega
 refine⟨?_,this⟩
 unfold see
 rw[this]
 rfl
theorem Aec (a:YBs) (hq: ∀r,Fu a=some r->wfB r.2.2.2.2.2.1):R0 a=some (true,()):=by
 unfold R0 G3
 simp only[Ar,Am,Ad,Aw,T8]
 rw[show Abj a=some (decide ((a.1.length:Int)>(1048576:Int)),())from rfl,As]
 by_cases hb:(a.1.length:Int)>1048576
 .rw[Al hb,Bo]
 rw[Df hb,A9]
 obtain⟨⟨⟨l,_⟩,w⟩,hr,hr1,hr2⟩:=Aa4 a zq1
 obtain⟨⟨⟨m,_⟩,p,q⟩,hd,hd1⟩:=Ug a zq1
 have hw:wfB w.2.2.2.2.1:=hq _ hr
 dsimp only at hr1 hr2 hd1
 have n1:=Uh hr1.2
 have n2:=Uh hd1.2
 have l1:=hr1.1
 have l2:=hd1.1
 have nw:Do w<=300:=hr2
 simp only[hr,hd,As]
 rw[Aif l w zq1,As,Ad4 m p q zq1,As]
 dsimp only
 rw[Acv l (see l w) m p q w zq1,As]
 simp only[sm]
 have hsl:l.length<=(see l w).length/\(see l w).length<=l.length+1/\(see l w).take l.length=l:=by
  unfold see
  cases Cz (l++[w])with
  |false=>simp
  |true=>simp
 obtain⟨s1,s2,s3⟩:=hsl
 have ew:((w.1,w.2.1,w.2.2.1,w.2.2.2.1,w.2.2.2.2.1,()):Ag)=w:=rfl
 obtain⟨t,ht1,ht2⟩:=Aa3 w hw zq1
 simp only[ew,Qi l zq1,Ad1 l zq1,Su,Sv,As,beq_self_eq_true,Bool.not_true,A9,bne_self_eq_false,ht1,ht2]
 rw[Df zq1,A9,Al zq1,Au,Al zq1,Au]
 rw[show((l.length:Int)).toNat=l.length by omega,show((0:Int)).toNat=0 from rfl,List.drop_zero,s3,K4 l zq1,As]
 simp only[Bool.not_true,A9,decide_true]
 cases c1:Cz l with
 |false=>
  rw[Zj l w (.inl c1)]
  simp[Bo]
 |true=>
  simp only[Bool.not_true,A9]
  cases c2:Ej w with
  |false=>
   rw[Zj l w (.inr (.inl c2))]
   simp[Bo]
  |true=>
   simp only[Bool.not_true,A9]
   by_cases c3:l.length=90
   .rw[Zj l w (.inr (.inr c3))]
    rw[show((l.length:Int)==90)=true by simp;omega,Bo]
    simp
   .obtain⟨e1,e2⟩:=Aht l w c1 c2 c3
    rw[show((l.length:Int)==90)=false by simp;omega,A9,e1,Qi _ zq0,As,e2,w64 zq1]
    rw[show(((l++[w]).length:Int)==(l.length:Int)+1)=true by simp,Bo,Bo,Al zq1,Au,Au,Au]
    have e3:(((l++[w]).take (((l++[w]).length:Int)).toNat).drop l.length)=[w]:=by
     rw[show(((l++[w]).length:Int)).toNat=(l++[w]).length by omega,List.take_length]
     simp
    rw[e3,K4 [w] (by simp)]
    rfl
end
end Go.Proofs.YthccfdmiejmbaaaDoor
