/-
  That the program and the reference answer alike, in plain terms, and that the laws answer true.
-/
import Derived.Test.YtfljmgnghlpapaaGreatL32
namespace Go.Proofs.YtfljmgnghlpapaaGreat
open Go.RowKit
set_option linter.unusedVariables false
set_option linter.unusedSimpArgs false
set_option maxRecDepth 100000
set_option maxHeartbeats 4000000
noncomputable section
def Af2 (a b:Int) (x:Aj):Prop:=G8 (x.1,x.2.1,())=true∧eqA x.1 x.2.1 a b=false∧x.2.2.1.length=12∧(0≤x.2.2.2.1∧x.2.2.2.1≤1000006)
theorem Od {a b:Int} {l:List Aj}:Cz (a,b,l,())=true↔G8 (a,b,())=true∧l.length≤3∧(∀x∈l,Af2 a b x)∧l.Pairwise (fun y x=>eqA y.1 y.2.1 x.1 x.2.1=false):=by
 have key:Dk (Ji a b l) l=true↔(∀x∈l,Af2 a b x)∧l.Pairwise (fun y x=>eqA y.1 y.2.1 x.1 x.2.1=false):=by
  rw[Jj,List.pairwise_iff_getElem]
  unfold Ji Af2
  simp only[Bool.not_eq_false',Bool.and_eq_true,Bool.not_eq_true',beq_iff_eq,E8,Jj]
  constructor
  ·intro h
   refine⟨fun x hx=>?_,fun i j hi hj hij=>?_⟩
   ·obtain⟨j,hj⟩:=List.getElem?_of_mem hx
    obtain⟨h1,h2,h3,h4,_⟩:=h j x hj
    exact⟨h1,h2,by omega,h4⟩
   ·obtain⟨_,_,_,_,h5⟩:=h j l[j] (List.getElem?_eq_getElem hj)
    exact h5 i l[i] (by rw[List.getElem?_take,if_pos hij];exact List.getElem?_eq_getElem hi)
  ·rintro⟨h1,h2⟩ j x hj
   obtain⟨g1,g2,g3,g4⟩:=h1 x (List.mem_of_getElem? hj)
   refine⟨g1,g2,by omega,g4,fun i y hi=>?_⟩
   rw[List.getElem?_take]at hi
   split at hi
   ·rename_i hlt
    obtain⟨k1,k2⟩:=List.getElem?_eq_some_iff.1 hi
    obtain⟨k3,k4⟩:=List.getElem?_eq_some_iff.1 hj
    have:=h2 i j k1 k3 hlt
    rw[k2,k4]at this
    exact this
   ·cases hi
 unfold Cz
 simp only[Bool.and_eq_true,Bool.not_eq_true',decide_eq_false_iff_not,key]
 constructor
 ·rintro⟨h1,h2,h3⟩;exact⟨h1,by omega,h3⟩
 ·rintro⟨h1,h2,h3⟩;exact⟨h1,by omega,h3⟩
def atA (a b:Int) (x:Aj):Bool:=eqA x.1 x.2.1 a b
theorem Awv (p:A4) (a:Da) (h:p.2.2.1.length≤4294967296):X0 p a=some (Rv (atA a.1 a.2.1) p.2.2.1,()):=by
 obtain⟨b,d,l,⟨⟩⟩:=p
 simp only at h
 have hl:=Oq (B:=Mj) l (fun i=>(l,(l.length:Int),(i:Int),a.1,a.2.1,())) (fun _ x=>atA a.1 a.2.1 x) (fun i=>((i:Int),())) ()
  (fun i x hi hx=>by
   unfold Mj
   simp (disch:=omega) only[Ah,Ai,Ab,Db hi,A9,B7 hx,Ak,w64]
   rfl)
  (by unfold Mj;simp only[Ah,Ab,Dc,A1])
 unfold X0 Aht
 simp only[Ai,Ab,Ej]
 rw[show((0:Int))=((0:Nat):Int)from rfl,hl]
 exact Any _ _
theorem Alh {p:A4} {n:Int} (h:Cz p=true):Cz (Df p n)=true:=by
 obtain⟨a,b,l,⟨⟩⟩:=p
 obtain⟨h1,h2,h3,h4⟩:=Od.1 h
 refine Od.2 ⟨h1,?_,fun x hx=>h3 x ((List.mem_filter.1 hx).1),h4.filter _⟩
 have:=List.length_filter_le (Gk n) l
 exact Nat.le_trans this h2
def OfH (p:A4) (n:Int) (p':A4) (b:Bool):Prop:=(b=false→p'=p)∧Av p'≤Av p+50∧(b=true→Cz p=true∧Cz p'=true)
theorem Aww (p:A4) (n:YI) (a:Da) (d:YBs) (h:Av p≤4294967296): ∃p' b,Ak4 p n a d=some (p',(b,()))∧S3 p n a d=some (p',(b,()))∧OfH p n.1 p' b:=by
 have h':=h
 have hl0:p.2.2.1.length≤Av p:=by simp only[Av];omega
 obtain⟨d,⟨⟩⟩:=d
 have nope: ∃p' b,some (p,(false,()))=some (p',(b,()))∧some (p,(false,()))=some (p',(b,()))∧OfH p n.1 p' b:=⟨p,false,rfl,rfl,fun _=>rfl,by omega,fun h=>by cases h⟩
 unfold Ak4 Ak3 S3 Abk
 simp only[Ah,Ai,Ab,Am,Ej]
 rw[Acl p zq0,Acm p zq0,D0,Dd,Afx,X3,S8,Ob p h,Ou p h,R2 p n h,As4 p n h]
 simp only[Ak,bne]
 cases ho:Cz p with
 |false=>exact nope
 |true=>
 simp only[Bool.not_true,A1]
 cases hn:inR n.1 0 1000000 with
 |false=>exact nope
 |true=>
 simp only[Bool.not_true,A1]
 cases ha:G8 a with
 |false=>exact nope
 |true=>
 simp only[Bool.not_true,A1]
 cases hd:((d.length:Int)==12)with
 |false=>exact nope
 |true=>
 simp only[Bool.not_true,A1]
 cases hat:(and (a.1==p.1) (and (a.2.1==p.2.1) true))with
 |true=>exact nope
 |false=>
 simp only[A1]
 have ht:Fw p n.1=Df p n.1:=by unfold Fw;rw[ho,hn];rfl
 rw[ht]
 have hd':d.length=12:=by have:=eq_of_beq hd;omega
 have hn':=E8.1 hn
 have htn:=Aez p n.1
 have hto:=Alh (n:=n.1) ho
 have htl:(Df p n.1).2.2.1.length≤Av (Df p n.1):=by simp only[Av];omega
 have h1:(Df p n.1).1=p.1:=rfl
 have h2:(Df p n.1).2.1=p.2.1:=rfl
 rw[Awv _ _ zq0]
 simp only[Ak]
 have hs:=Oq (B:=H5) (Df p n.1).2.2.1 (fun i=>(n.1,d,(i:Int),p.1,p.2.1,p.2.2.1,a.1,a.2.1,(0:Int),(0:Int),([]:List Aj),(Df p n.1).1,(Df p n.1).2.1,(Df p n.1).2.2.1,())) (fun _ x=>atA a.1 a.2.1 x) (fun _=>(false,p.1,p.2.1,p.2.2.1,())) (n.1,d,p.1,p.2.1,p.2.2.1,a.1,a.2.1,(0:Int),(0:Int),([]:List Aj),(Df p n.1).1,(Df p n.1).2.1,(Df p n.1).2.2.1,())
  (fun i x hi hx=>by
   unfold H5
   simp (disch:=omega) only[Ah,Ai,Ab,Db hi,A9,B7 hx,Ak,w64]
   rw[show Ct (p.1,p.2.1,p.2.2.1,())=some p from Ou p h]
   rfl)
  (by unfold H5;simp only[Ah,Ab,Dc,A1])
 rw[show As H5 (n.1,d,(0:Int),p.1,p.2.1,p.2.2.1,a.1,a.2.1,(0:Int),(0:Int),([]:List Aj),(Df p n.1).1,(Df p n.1).2.1,(Df p n.1).2.2.1,())=_ from hs]
 simp only[Ak]
 unfold Rv
 cases hf:Ic (fun _ x=>atA a.1 a.2.1 x) (Df p n.1).2.2.1 0 with
 |some k=>
  simp only[Option.elim,A0t]
  simp only[show((k:Int)≥0)=True from eq_true zq0,decide_true,A9]
  exact nope
 |none=>
  simp only[Option.elim,Anv]
  simp only[show((-1:Int)≥0)=False from eq_false zq0,decide_false,A1]
  rw[show Ct (p.1,p.2.1,p.2.2.1,())=some p from Ou p h]
  simp only[Ak]
  cases hk:(((Df p n.1).2.2.1.length:Int)==3)with
  |true=>exact nope
  |false=>
  simp only[A1]
  have hp: ∃l,Df p n.1=(p.1,p.2.1,l,()):=⟨_,rfl⟩
  obtain⟨l,hl⟩:=hp
  rw[hl]at hto hf hk htn htl ⊢
  obtain⟨q1,q2,q3,q4⟩:=Od.1 hto
  simp only at hf hk htl ⊢
  have hk': ¬(l.length:Int)=3:=by simpa using hk
  rw[Lc _ zq2]
  simp only[Ak,List.nil_append,List.length_nil,Nat.zero_add,List.length_cons]
  rw[Ao zq0,Ao zq0,Bd,Bd,w64 zq0]
  refine⟨_,true,rfl,rfl,fun h=>(by cases h),?_,fun _=>⟨ho,Od.2 ⟨q1,?_,?_,?_⟩⟩⟩
  ·simp only[Av]at htn ⊢
   simp only[Av,List.length_append,List.length_cons,List.length_nil,Af0,C4,Ck]
   omega
  ·simp only[List.length_append,List.length_cons,List.length_nil];omega
  ·intro x hx
   rcases List.mem_append.1 hx with hx|hx
   ·exact q3 x hx
   ·simp only[List.mem_singleton]at hx
    subst hx
    exact⟨ha,hat,hd',by dsimp only;omega⟩
  ·rw[List.pairwise_append]
   refine⟨q4,List.pairwise_singleton _ _,fun x hx y hy=>?_⟩
   simp only[List.mem_singleton]at hy
   subst hy
   obtain⟨j,hj⟩:=List.getElem?_of_mem hx
   have:=S9.1 hf j x hj
   exact this
end
end Go.Proofs.YtfljmgnghlpapaaGreat
