/-
  That the program and the reference answer alike, in plain terms, and that the laws answer true.
-/
import Derived.Test.YtmhhajdeafijmaaGreatL14
namespace Go.Proofs.YtmhhajdeafijmaaGreat
open Go.RowKit
set_option linter.unusedVariables false
set_option linter.unusedSimpArgs false
set_option maxRecDepth 100000
set_option maxHeartbeats 4000000
noncomputable section
theorem At3 (k:List YB) (r:Int) (sn:List YB) (ep seq kind:Int) (p:List YB):(Ev k r sn ep seq kind p).2.1=I1 k r sn ep seq kind p:=by
 unfold Ev
 cases I1 k r sn ep seq kind p<;>rfl
theorem A7b (r:Int) (sn:List YB) (ep seq:Int):(((Da r sn ep seq).length:Int)==0)= !E7 r sn ep seq:=by
 rw[Ke]
 cases E7 r sn ep seq<;>rfl
def Ajp (e:YEp):YEp:=(e.1,e.2.1,e.2.2.1+1,e.2.2.2.1,e.2.2.2.2.1,())
theorem A81 {e:YEp} (h:Dy e=true) (hs:e.2.2.1≠281474976710656):Dy (Ajp e)=true:=by
 unfold Dy at h ⊢
 simp only[Bool.and_eq_true,Bp,Ajp]at h ⊢
 exact⟨h.1,h.2.1,⟨by omega,by omega⟩,h.2.2.2⟩
def EpS (e:YEp) (role:Int) (sn:List YB) (k:Int) (p:List YB) (e':YEp) (f:Aq) (c:Int):Prop:=
 B5 e'=B5 e∧Ar f≤sn.length+p.length+32∧(c≠0→e'=e)∧(c=0→Dy e=true∧Dy e'=true∧e'.1=e.1∧e'.2.1=e.2.1∧f=(Ev e.2.1 role sn e.1 e.2.2.1 k p).1∧I1 e.2.1 role sn e.1 e.2.2.1 k p=true)
theorem A5e (e:YEp) (role:Int) (sn:List YB) (k:Int) (p:List YB) (h:B5 e+sn.length+p.length≤67108864):
  ∃(e':YEp) (f:Aq) (c:Int),Vn e (role,()) (sn,()) (k,()) (p,())=some (e',f,(c,()))∧Afp e (role,()) (sn,()) (k,()) (p,())=some (e',f,(c,()))∧EpS e role sn k p e' f c:=by
 have hn:=Az9 e.2.1 role sn e.1 e.2.2.1 k p
 have he:B5 e=e.2.1.length+e.2.2.2.2.1.length:=rfl
 have none: ∀ {c:Int},c≠0→ ∃(e':YEp) (f:Aq) (c':Int),some (e,Ff,(c,()))=some (e',f,(c',()))∧some (e,Ff,(c,()))=some (e',f,(c',()))∧EpS e role sn k p e' f c':=fun {c} hc=>
  ⟨e,Ff,c,rfl,rfl,rfl,by simp[Ar,Ff],fun _=>rfl,fun h=>(hc h).elim⟩
 unfold Vn Vf Afp Ap4
 simp only[Ae,Ai,Ac]
 rw[Anu e zq0,Af3 e zq0,Aji e zq0,Aw2 e]
 simp only[Ag]
 cases ho:Dy e with
 |false=>exact none (c:=1) zq4
 |true=>
  have hk:((e.2.1.length:Int)==32)=true:=by unfold Dy at ho;simp only[Bool.and_eq_true]at ho;exact ho.2.1
  have hseq:inR e.2.2.1 0 281474976710656=true:=by unfold Dy at ho;simp only[Bool.and_eq_true]at ho;exact ho.2.2.1
  rw[Bp]at hseq
  simp only[Bool.not_true,An]
  rw[Aqg _ _ _ _ _ _ _ zq0 zq0,Ag,Af2,Ag,Su,Ag,Anq,Ag]
  simp only[At3,A7b]
  unfold I1
  rw[hk]
  simp only[Bool.true_and]
  cases hd:E7 role sn e.1 0 with
  |false=>exact none (c:=1) zq4
  |true=>
   cases hkd:inR k 4 8 with
   |false=>exact none (c:=1) zq4
   |true=>
    cases hb:Hc k (p.length:Int)with
    |false=>exact none (c:=1) zq4
    |true=>
     simp only[Bool.and_self,Bool.not_true,An]
     have fin:e.2.2.1≠281474976710656→ ∃(e':YEp) (f:Aq) (c':Int),some (Ajp e,(Ev e.2.1 role sn e.1 e.2.2.1 k p).1,((0:Int),()))=some (e',f,(c',()))∧some (Ajp e,(Ev e.2.1 role sn e.1 e.2.2.1 k p).1,((0:Int),()))=some (e',f,(c',()))∧EpS e role sn k p e' f c':=fun hs=>
      ⟨Ajp e,_,0,rfl,rfl,rfl,hn,fun h=>(h rfl).elim,fun _=>⟨ho,A81 ho hs,rfl,rfl,rfl,by
       unfold I1
       rw[hk,hkd,hb]
       unfold E7 at hd ⊢
       simp only[Bool.and_eq_true,Bp,Bool.and_true]at hd ⊢
       exact⟨trivial,hd.1,hd.2.1,hd.2.2.1,by omega,by omega⟩⟩⟩
     rw[Aqg _ _ _ _ _ _ _ zq0 zq0,A48 _ _ _ _ _ _ _ zq0 zq0]
     simp only[Ag]
     have go:br (e.2.2.1==(281474976710656:Int)) (some (e,Ff,((5:Int),()))) (some ((e.1,e.2.1,(IntKind.i64.wrap (e.2.2.1+(1:Int))),e.2.2.2.1,e.2.2.2.2.1,()),(Ev e.2.1 role sn e.1 e.2.2.1 k p).1,((0:Int),())))=if e.2.2.1=281474976710656 then some (e,Ff,((5:Int),()))else some (Ajp e,(Ev e.2.1 role sn e.1 e.2.2.1 k p).1,((0:Int),())):=by
      by_cases h5:e.2.2.1=281474976710656
      ·rw[if_pos h5,Fh (by simp[h5])]
      ·rw[if_neg h5,C7 (by simp[h5]),w64 zq0];rfl
     have fin2: ∃(e':YEp) (f:Aq) (c':Int),(if e.2.2.1=281474976710656 then some (e,Ff,((5:Int),()))else some (Ajp e,(Ev e.2.1 role sn e.1 e.2.2.1 k p).1,((0:Int),())))=some (e',f,(c',()))∧(if e.2.2.1=281474976710656 then some (e,Ff,((5:Int),()))else some (Ajp e,(Ev e.2.1 role sn e.1 e.2.2.1 k p).1,((0:Int),())))=some (e',f,(c',()))∧EpS e role sn k p e' f c':=by
      by_cases h5:e.2.2.1=281474976710656
      ·rw[if_pos h5];exact none (c:=5) zq4
      ·rw[if_neg h5];exact fin h5
     cases hk4:(k==(4:Int))with
     |false=>
      simp only[An]
      exact go▸fin2
     |true=>
      simp only[A0]
      by_cases h4:e.2.2.1≥281474976709656
      ·rw[Am h4,A0];exact none (c:=4) zq4
      ·rw[Bj h4,An]
       exact go▸fin2
def Ep (c:Aj) (e:YEp):Aj:=(c.1,c.2.1,e.1,e.2.1,e.2.2.1,e.2.2.2.1,e.2.2.2.2.1,c.2.2.2.2.2.2.2.1,c.2.2.2.2.2.2.2.2.1,c.2.2.2.2.2.2.2.2.2.1,c.2.2.2.2.2.2.2.2.2.2.1,c.2.2.2.2.2.2.2.2.2.2.2.1,c.2.2.2.2.2.2.2.2.2.2.2.2.1,c.2.2.2.2.2.2.2.2.2.2.2.2.2.1,c.2.2.2.2.2.2.2.2.2.2.2.2.2.2.1,())
theorem Aqm {c:Aj} {e:YEp} (h:Bt c=true) (he:Dy e=true) (h1:e.1=c.2.2.1):Bt (Ep c e)=true:=by
 have e1:Ia (Ep c e)=e:=rfl
 have e2:Ib (Ep c e)=Ib c:=by
  unfold Ib
  have:(Ep c e).2.2.1=c.2.2.1:=h1
  simp only[this]
  rfl
 unfold Bt at h ⊢
 rw[e1,e2]
 simp only[Bool.not_not,Bool.and_eq_true]at h ⊢
 refine⟨h.1,h.2.1,he,h.2.2.2.1,?_⟩
 have:=h.2.2.2.2
 simp only[Ep,I0,h1]at this ⊢
 exact this
theorem Axf (c:Aj) (e:YEp) (h:B5 e=B5 (Ia c)):Av (Ep c e)=Av c:=by
 simp only[B5,Ia]at h
 simp only[Av,Ep]
 omega
def ChS (c:Aj) (k:Int) (p:List YB) (c':Aj) (f:Aq) (z:Int):Prop:=
 ∃e':YEp,c'=Ep c e'∧Av c'=Av c∧Ar f≤Av c+p.length+32∧(z≠0→c'=c)∧
  (z=0→Bt c=true∧Bt c'=true∧e'.1=c.2.2.1∧e'.2.1=c.2.2.2.1∧f=(Ev c.2.2.2.1 c.1 c.2.1 c.2.2.1 c.2.2.2.2.1 k p).1∧I1 c.2.2.2.1 c.1 c.2.1 c.2.2.1 c.2.2.2.2.1 k p=true)
theorem En (c:Aj) (k:Int) (p:List YB) (h:Av c+p.length≤67108864):
  ∃(c':Aj) (f:Aq) (z:Int),Bq c (k,()) (p,())=some (c',f,(z,()))∧Ci c (k,()) (p,())=some (c',f,(z,()))∧ChS c k p c' f z:=by
 have hc:=h
 simp only[Av]at hc
 unfold Bq Qs Ci Ajb
 simp only[Ae,Ai,Ac]
 rw[Kt c zq0,Ms c zq0,Mp c zq6 zq7,Mq c]
 simp only[Ag]
 cases ho:Bt c with
 |false=>exact⟨c,Ff,1,rfl,rfl,Ia c,rfl,rfl,by simp[Ar,Ff],fun _=>rfl,fun h=>by cases h⟩
 |true=>
  simp only[Bool.not_true,An]
  obtain⟨e',f,z,h1,h2,h3,h4,h5,h6⟩:=A5e (Ia c) c.1 c.2.1 k p (by simp only[B5,Ia];omega)
  have hn:=Axf c e' h3
  rw[h1,h2,Ag,Ag]
  have hf:Ar f≤Av c+p.length+32:=by simp only[Av];omega
  by_cases hz:z=0
  ·subst hz
   obtain⟨q1,q2,q3,q4,q5,q6⟩:=h6 rfl
   exact⟨Ep c e',f,0,rfl,rfl,e',rfl,hn,hf,fun h=>(h rfl).elim,fun _=>⟨ho,Aqm ho q2 q3,q3,q4,q5,q6⟩⟩
  ·have he:=h5 hz
   subst he
   refine⟨c,f,z,rfl,?_,Ia c,rfl,rfl,hf,fun _=>rfl,fun h=>(hz h).elim⟩
   rw[C7 (by simpa using hz)]
def Ob (n:Int):List YB:=bif inR n 0 4294967295 then Fw n 4 4 else []
theorem At4 (n:Int):(Ob n).length≤4:=by unfold Ob;cases inR n 0 4294967295<;>simp[G6]
theorem Amg (n:Int):Oo (n,())=some (Ob n,()):=by
 unfold Oo Uu Ob
 simp only[Ae,Ai,Ac,Cj,Ag]
 cases inR n 0 4294967295 with
 |false=>rfl
 |true=>simp only[Bool.not_true,An];rw[Ac2 _ _ zq3,Ag];rfl
theorem Abs (n:Int):Ds (n,())=some (Ob n,()):=by
 unfold Ds Uo Ob
 simp only[Ae,Ai,Ac,Cz,Ag]
 cases inR n 0 4294967295 with
 |false=>rfl
 |true=>simp only[Bool.not_true,An];rw[Ss _ _ zq3,Ag];rfl
theorem A5f (c:Aj) (h:Av c≤67000000):
  ∃(c':Aj) (f:Aq) (z:Int),Akn c=some (c',f,(z,()))∧Ako c=some (c',f,(z,()))∧Av c'=Av c∧Ar f≤Av c+36∧(z=0→ChS c 8 (Ob c.2.2.1) c' f 0):=by
 have hc:=h
 have hl:=At4 c.2.2.1
 simp only[Av]at hc
 unfold Akn Ar8 Ako A06
 simp only[Ae,Ai,Ac]
 rw[Kt c zq0,Ms c zq0,Mp c zq6 zq7,Mq c]
 simp only[Ag]
 cases ho:Bt c with
 |false=>exact⟨c,Ff,6,rfl,rfl,rfl,by simp[Ar,Ff],fun h=>by cases h⟩
 |true=>
  simp only[Bool.not_true,An]
  cases hx:(c.1 != (1:Int))with
  |true=>exact⟨c,Ff,6,rfl,rfl,rfl,by simp[Ar,Ff],fun h=>by cases h⟩
  |false=>
   simp only[An]
   rw[Amg,Abs,Ag,Ag]
   obtain⟨c',f,z,h1,h2,h3⟩:=En c 8 (Ob c.2.2.1) zq0
   rw[h1,h2,Ag]
   have h3':=h3
   obtain⟨e',q1,q2,q3,q4,q5⟩:=h3
   exact⟨c',f,z,rfl,rfl,q2,by omega,fun hz=>hz▸h3'⟩
end
end Go.Proofs.YtmhhajdeafijmaaGreat
