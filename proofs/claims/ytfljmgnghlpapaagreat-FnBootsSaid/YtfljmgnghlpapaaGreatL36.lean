/-
  That the program and the reference answer alike, in plain terms, and that the laws answer true.
-/
import Derived.Test.YtfljmgnghlpapaaGreatL32
namespace Go.Proofs.YtfljmgnghlpapaaGreat
open Go.RowKit
set_option linter.unusedVariables false
set_option linter.unusedSimpArgs false
set_option maxRecDepth 100000
set_option maxHeartbeats 4000000
noncomputable section
def Arg (a b:Int) (x:Ap):Prop:=D3 (x.1,x.2.1,())=true∧eqA x.1 x.2.1 a b=false∧x.2.2.1.length=12∧(0≤x.2.2.2.1∧x.2.2.2.1≤1000006)
theorem Tb {a b:Int} {l:List Ap}:D7 (a,b,l,())=true↔D3 (a,b,())=true∧l.length≤3∧(∀x∈l,Arg a b x)∧l.Pairwise (fun y x=>eqA y.1 y.2.1 x.1 x.2.1=false):=by
 have key:C6 (M0 a b l) l=true↔(∀x∈l,Arg a b x)∧l.Pairwise (fun y x=>eqA y.1 y.2.1 x.1 x.2.1=false):=by
  rw[Hq,List.pairwise_iff_getElem]
  unfold M0 Arg
  simp only[Bool.not_eq_false',Bool.and_eq_true,Bool.not_eq_true',beq_iff_eq,Cu,Hq]
  constructor
  ·intro h
   refine⟨fun x hx=>?_,fun i j hi hj hij=>?_⟩
   ·obtain⟨j,hj⟩:=List.getElem?_of_mem hx
    obtain⟨h1,h2,h3,h4,_⟩:=h j x hj
    exact⟨h1,h2,by omega,h4⟩
   ·obtain⟨_,_,_,_,h5⟩:=h j l[j] (List.getElem?_eq_getElem hj)
    exact h5 i l[i] (by rw[List.getElem?_take,if_pos hij];exact List.getElem?_eq_getElem hi)
  ·rintro⟨h1,h2⟩ j x hj
   obtain⟨g1,g2,g3,g4⟩:=h1 x (List.mem_of_getElem? hj)
   refine⟨g1,g2,by omega,g4,fun i y hi=>?_⟩
   rw[List.getElem?_take]at hi
   split at hi
   ·rename_i hlt
    obtain⟨k1,k2⟩:=List.getElem?_eq_some_iff.1 hi
    obtain⟨k3,k4⟩:=List.getElem?_eq_some_iff.1 hj
    have:=h2 i j k1 k3 hlt
    rw[k2,k4]at this
    exact this
   ·cases hi
 unfold D7
 simp only[Bool.and_eq_true,Bool.not_eq_true',decide_eq_false_iff_not,key]
 constructor
 ·rintro⟨h1,h2,h3⟩;exact⟨h1,by omega,h3⟩
 ·rintro⟨h1,h2,h3⟩;exact⟨h1,by omega,h3⟩
def atA (a b:Int) (x:Ap):Bool:=eqA x.1 x.2.1 a b
theorem Bdt (p:Bb) (a:Bi) (h:p.2.2.1.length≤4294967296):Ahv p a=some (L9 (atA a.1 a.2.1) p.2.2.1,()):=by
 obtain⟨b,d,l,⟨⟩⟩:=p
 simp only at h
 have hl:=Ma (B:=Qq) l (fun i=>(l,(l.length:Int),(i:Int),a.1,a.2.1,())) (fun _ x=>atA a.1 a.2.1 x) (fun i=>((i:Int),())) ()
  (fun i x hi hx=>by
   unfold Qq
   simp (disch:=omega) only[Ac,Ae,Ab,By hi,A4,Bk hx,Ai,w64]
   rfl)
  (by unfold Qq;simp only[Ac,Ab,Bz,Au])
 unfold Ahv At1
 simp only[Ae,Ab,Dn]
 rw[show((0:Int))=((0:Nat):Int)from rfl,hl]
 exact Amp _ _
theorem Ayl {p:Bb} {n:Int} (h:D7 p=true):D7 (El p n)=true:=by
 obtain⟨a,b,l,⟨⟩⟩:=p
 obtain⟨h1,h2,h3,h4⟩:=Tb.1 h
 refine Tb.2 ⟨h1,?_,fun x hx=>h3 x ((List.mem_filter.1 hx).1),h4.filter _⟩
 have:=List.length_filter_le (Iw n) l
 exact Nat.le_trans this h2
def OfH (p:Bb) (n:Int) (p':Bb) (b:Bool):Prop:=(b=false→p'=p)∧A1 p'≤A1 p+50∧(b=true→D7 p=true∧D7 p'=true)
theorem Bdu (p:Bb) (n:YI) (a:Bi) (d:YBs) (h:A1 p≤4294967296): ∃p' b,Ax6 p n a d=some (p',(b,()))∧Aag p n a d=some (p',(b,()))∧OfH p n.1 p' b:=by
 have h':=h
 have hl0:p.2.2.1.length≤A1 p:=by simp only[A1];omega
 obtain⟨d,⟨⟩⟩:=d
 have nope: ∃p' b,some (p,(false,()))=some (p',(b,()))∧some (p,(false,()))=some (p',(b,()))∧OfH p n.1 p' b:=⟨p,false,rfl,rfl,fun _=>rfl,by omega,fun h=>by cases h⟩
 unfold Ax6 Ax5 Aag Akw
 simp only[Ac,Ae,Ab,Al,Dn]
 rw[Amn p zq0,Amo p zq0,Bw,Df,Ow,Ox,L8,S9 p h,T0 p h,X8 p n h,A8n p n h]
 simp only[Ai,bne]
 cases ho:D7 p with
 |false=>exact nope
 |true=>
 simp only[Bool.not_true,Au]
 cases hn:inR n.1 0 1000000 with
 |false=>exact nope
 |true=>
 simp only[Bool.not_true,Au]
 cases ha:D3 a with
 |false=>exact nope
 |true=>
 simp only[Bool.not_true,Au]
 cases hd:((d.length:Int)==12)with
 |false=>exact nope
 |true=>
 simp only[Bool.not_true,Au]
 cases hat:(and (a.1==p.1) (and (a.2.1==p.2.1) true))with
 |true=>exact nope
 |false=>
 simp only[Au]
 have ht:Hz p n.1=El p n.1:=by unfold Hz;rw[ho,hn];rfl
 rw[ht]
 have hd':d.length=12:=by have:=eq_of_beq hd;omega
 have hn':=Cu.1 hn
 have htn:=Apt p n.1
 have hto:=Ayl (n:=n.1) ho
 have htl:(El p n.1).2.2.1.length≤A1 (El p n.1):=by simp only[A1];omega
 have h1:(El p n.1).1=p.1:=rfl
 have h2:(El p n.1).2.1=p.2.1:=rfl
 rw[Bdt _ _ zq0]
 simp only[Ai]
 have hs:=Ma (B:=Kr) (El p n.1).2.2.1 (fun i=>(n.1,d,(i:Int),p.1,p.2.1,p.2.2.1,a.1,a.2.1,(0:Int),(0:Int),([]:List Ap),(El p n.1).1,(El p n.1).2.1,(El p n.1).2.2.1,())) (fun _ x=>atA a.1 a.2.1 x) (fun _=>(false,p.1,p.2.1,p.2.2.1,())) (n.1,d,p.1,p.2.1,p.2.2.1,a.1,a.2.1,(0:Int),(0:Int),([]:List Ap),(El p n.1).1,(El p n.1).2.1,(El p n.1).2.2.1,())
  (fun i x hi hx=>by
   unfold Kr
   simp (disch:=omega) only[Ac,Ae,Ab,By hi,A4,Bk hx,Ai,w64]
   rw[show Dy (p.1,p.2.1,p.2.2.1,())=some p from T0 p h]
   rfl)
  (by unfold Kr;simp only[Ac,Ab,Bz,Au])
 rw[show As Kr (n.1,d,(0:Int),p.1,p.2.1,p.2.2.1,a.1,a.2.1,(0:Int),(0:Int),([]:List Ap),(El p n.1).1,(El p n.1).2.1,(El p n.1).2.2.1,())=_ from hs]
 simp only[Ai]
 unfold L9
 cases hf:G6 (fun _ x=>atA a.1 a.2.1 x) (El p n.1).2.2.1 0 with
 |some k=>
  simp only[Option.elim,Bh4]
  simp only[show((k:Int)≥0)=True from eq_true zq0,decide_true,A4]
  exact nope
 |none=>
  simp only[Option.elim,Av3]
  simp only[show((-1:Int)≥0)=False from eq_false zq0,decide_false,Au]
  rw[show Dy (p.1,p.2.1,p.2.2.1,())=some p from T0 p h]
  simp only[Ai]
  cases hk:(((El p n.1).2.2.1.length:Int)==3)with
  |true=>exact nope
  |false=>
  simp only[Au]
  have hp: ∃l,El p n.1=(p.1,p.2.1,l,()):=⟨_,rfl⟩
  obtain⟨l,hl⟩:=hp
  rw[hl]at hto hf hk htn htl ⊢
  obtain⟨q1,q2,q3,q4⟩:=Tb.1 hto
  simp only at hf hk htl ⊢
  have hk': ¬(l.length:Int)=3:=by simpa using hk
  rw[Dv _ zq2]
  simp only[Ai,List.nil_append,List.length_nil,Nat.zero_add,List.length_cons]
  rw[An zq0,An zq0,A8,A8,w64 zq0]
  refine⟨_,true,rfl,rfl,fun h=>(by cases h),?_,fun _=>⟨ho,Tb.2 ⟨q1,?_,?_,?_⟩⟩⟩
  ·simp only[A1]at htn ⊢
   simp only[A1,List.length_append,List.length_cons,List.length_nil,Are,Co,Dm]
   omega
  ·simp only[List.length_append,List.length_cons,List.length_nil];omega
  ·intro x hx
   rcases List.mem_append.1 hx with hx|hx
   ·exact q3 x hx
   ·simp only[List.mem_singleton]at hx
    subst hx
    exact⟨ha,hat,hd',by dsimp only;omega⟩
  ·rw[List.pairwise_append]
   refine⟨q4,List.pairwise_singleton _ _,fun x hx y hy=>?_⟩
   simp only[List.mem_singleton]at hy
   subst hy
   obtain⟨j,hj⟩:=List.getElem?_of_mem hx
   have:=Aam.1 hf j x hj
   exact this
end
end Go.Proofs.YtfljmgnghlpapaaGreat
