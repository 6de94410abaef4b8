/-
  That the program and the reference answer alike, in plain terms, and that the laws answer true.
-/
import Derived.Test.YtmhhajdeafijmaaGreatL14
namespace Go.Proofs.YtmhhajdeafijmaaGreat
open Go.RowKit
set_option linter.unusedVariables false
set_option linter.unusedSimpArgs false
set_option maxRecDepth 100000
set_option maxHeartbeats 4000000
noncomputable section
theorem A5c (k:List YB) (r:Int) (sn:List YB) (ep seq kind:Int) (p:List YB):(Fo k r sn ep seq kind p).2.1=Ly k r sn ep seq kind p:=by
 unfold Fo
 cases Ly k r sn ep seq kind p<;>rfl
theorem A7c (r:Int) (sn:List YB) (ep seq:Int):(((Df r sn ep seq).length:Int)==0)= !Fm r sn ep seq:=by
 rw[Lx]
 cases Fm r sn ep seq<;>rfl
def Ajz (e:YEp):YEp:=(e.1,e.2.1,e.2.2.1+1,e.2.2.2.1,e.2.2.2.2.1,())
theorem A8y {e:YEp} (h:Es e=true) (hs:e.2.2.1≠281474976710656):Es (Ajz e)=true:=by
 unfold Es at h ⊢
 simp only[Bool.and_eq_true,C6,Ajz]at h ⊢
 exact⟨h.1,h.2.1,⟨by omega,by omega⟩,h.2.2.2⟩
def EpS (e:YEp) (role:Int) (sn:List YB) (k:Int) (p:List YB) (e':YEp) (f:Au) (c:Int):Prop:=
 Bs e'=Bs e∧Aq f≤sn.length+p.length+32∧(c≠0→e'=e)∧(c=0→Es e=true∧Es e'=true∧e'.1=e.1∧e'.2.1=e.2.1∧f=(Fo e.2.1 role sn e.1 e.2.2.1 k p).1∧Ly e.2.1 role sn e.1 e.2.2.1 k p=true)
theorem A5d (e:YEp) (role:Int) (sn:List YB) (k:Int) (p:List YB) (h:Bs e+sn.length+p.length≤67108864):
  ∃(e':YEp) (f:Au) (c:Int),Aev e (role,()) (sn,()) (k,()) (p,())=some (e',f,(c,()))∧Ae4 e (role,()) (sn,()) (k,()) (p,())=some (e',f,(c,()))∧EpS e role sn k p e' f c:=by
 have hn:=A0g e.2.1 role sn e.1 e.2.2.1 k p
 have he:Bs e=e.2.1.length+e.2.2.2.2.1.length:=rfl
 have none: ∀ {c:Int},c≠0→ ∃(e':YEp) (f:Au) (c':Int),some (e,Ez,(c,()))=some (e',f,(c',()))∧some (e,Ez,(c,()))=some (e',f,(c',()))∧EpS e role sn k p e' f c':=fun {c} hc=>
  ⟨e,Ez,c,rfl,rfl,rfl,by simp[Aq,Ez],fun _=>rfl,fun h=>(hc h).elim⟩
 unfold Aev Aeu Ae4 Ae3
 simp only[Af,Ah,Ac]
 rw[An4 e zq0,Afy e zq0,Aqg e zq0,Aw3 e]
 simp only[Ai]
 cases ho:Es e with
 |false=>exact none (c:=1) zq3
 |true=>
  have hk:((e.2.1.length:Int)==32)=true:=by unfold Es at ho;simp only[Bool.and_eq_true]at ho;exact ho.2.1
  have hseq:inR e.2.2.1 0 281474976710656=true:=by unfold Es at ho;simp only[Bool.and_eq_true]at ho;exact ho.2.2.1
  rw[C6]at hseq
  simp only[Bool.not_true,Ap]
  rw[A46 _ _ _ _ _ _ _ zq0 zq0,Ai,Afx,Ai,Ro,Ai,An0,Ai]
  simp only[A5c,A7c]
  unfold Ly
  rw[hk]
  simp only[Bool.true_and]
  cases hd:Fm role sn e.1 0 with
  |false=>exact none (c:=1) zq3
  |true=>
   cases hkd:inR k 4 8 with
   |false=>exact none (c:=1) zq3
   |true=>
    cases hb:Ie k (p.length:Int)with
    |false=>exact none (c:=1) zq3
    |true=>
     simp only[Bool.and_self,Bool.not_true,Ap]
     have fin:e.2.2.1≠281474976710656→ ∃(e':YEp) (f:Au) (c':Int),some (Ajz e,(Fo e.2.1 role sn e.1 e.2.2.1 k p).1,((0:Int),()))=some (e',f,(c',()))∧some (Ajz e,(Fo e.2.1 role sn e.1 e.2.2.1 k p).1,((0:Int),()))=some (e',f,(c',()))∧EpS e role sn k p e' f c':=fun hs=>
      ⟨Ajz e,_,0,rfl,rfl,rfl,hn,fun h=>(h rfl).elim,fun _=>⟨ho,A8y ho hs,rfl,rfl,rfl,by
       unfold Ly
       rw[hk,hkd,hb]
       unfold Fm at hd ⊢
       simp only[Bool.and_eq_true,C6,Bool.and_true]at hd ⊢
       exact⟨trivial,hd.1,hd.2.1,hd.2.2.1,by omega,by omega⟩⟩⟩
     rw[A46 _ _ _ _ _ _ _ zq0 zq0,A47 _ _ _ _ _ _ _ zq0 zq0]
     simp only[Ai]
     have go:br (e.2.2.1==(281474976710656:Int)) (some (e,Ez,((5:Int),()))) (some ((e.1,e.2.1,(IntKind.i64.wrap (e.2.2.1+(1:Int))),e.2.2.2.1,e.2.2.2.2.1,()),(Fo e.2.1 role sn e.1 e.2.2.1 k p).1,((0:Int),())))=if e.2.2.1=281474976710656 then some (e,Ez,((5:Int),()))else some (Ajz e,(Fo e.2.1 role sn e.1 e.2.2.1 k p).1,((0:Int),())):=by
      by_cases h5:e.2.2.1=281474976710656
      ·rw[if_pos h5,F3 (by simp[h5])]
      ·rw[if_neg h5,Dv (by simp[h5]),w64 zq0];rfl
     have fin2: ∃(e':YEp) (f:Au) (c':Int),(if e.2.2.1=281474976710656 then some (e,Ez,((5:Int),()))else some (Ajz e,(Fo e.2.1 role sn e.1 e.2.2.1 k p).1,((0:Int),())))=some (e',f,(c',()))∧(if e.2.2.1=281474976710656 then some (e,Ez,((5:Int),()))else some (Ajz e,(Fo e.2.1 role sn e.1 e.2.2.1 k p).1,((0:Int),())))=some (e',f,(c',()))∧EpS e role sn k p e' f c':=by
      by_cases h5:e.2.2.1=281474976710656
      ·rw[if_pos h5];exact none (c:=5) zq3
      ·rw[if_neg h5];exact fin h5
     cases hk4:(k==(4:Int))with
     |false=>
      simp only[Ap]
      exact go▸fin2
     |true=>
      simp only[Az]
      by_cases h4:e.2.2.1≥281474976709656
      ·rw[Al h4,Az];exact none (c:=4) zq3
      ·rw[Bi h4,Ap]
       exact go▸fin2
def Ee (c:Aj) (e:YEp):Aj:=(c.1,c.2.1,e.1,e.2.1,e.2.2.1,e.2.2.2.1,e.2.2.2.2.1,c.2.2.2.2.2.2.2.1,c.2.2.2.2.2.2.2.2.1,c.2.2.2.2.2.2.2.2.2.1,c.2.2.2.2.2.2.2.2.2.2.1,c.2.2.2.2.2.2.2.2.2.2.2.1,c.2.2.2.2.2.2.2.2.2.2.2.2.1,c.2.2.2.2.2.2.2.2.2.2.2.2.2.1,c.2.2.2.2.2.2.2.2.2.2.2.2.2.2.1,())
theorem Aqn {c:Aj} {e:YEp} (h:Ci c=true) (he:Es e=true) (h1:e.1=c.2.2.1):Ci (Ee c e)=true:=by
 have e1:I1 (Ee c e)=e:=rfl
 have e2:K5 (Ee c e)=K5 c:=by
  unfold K5
  have:(Ee c e).2.2.1=c.2.2.1:=h1
  simp only[this]
  rfl
 unfold Ci at h ⊢
 rw[e1,e2]
 simp only[Bool.not_not,Bool.and_eq_true]at h ⊢
 refine⟨h.1,h.2.1,he,h.2.2.2.1,?_⟩
 have:=h.2.2.2.2
 simp only[Ee,Ki,h1]at this ⊢
 exact this
theorem Axl (c:Aj) (e:YEp) (h:Bs e=Bs (I1 c)):Ax (Ee c e)=Ax c:=by
 simp only[Bs,I1]at h
 simp only[Ax,Ee]
 omega
def ChS (c:Aj) (k:Int) (p:List YB) (c':Aj) (f:Au) (z:Int):Prop:=
 ∃e':YEp,c'=Ee c e'∧Ax c'=Ax c∧Aq f≤Ax c+p.length+32∧(z≠0→c'=c)∧
  (z=0→Ci c=true∧Ci c'=true∧e'.1=c.2.2.1∧e'.2.1=c.2.2.2.1∧f=(Fo c.2.2.2.1 c.1 c.2.1 c.2.2.1 c.2.2.2.2.1 k p).1∧Ly c.2.2.2.1 c.1 c.2.1 c.2.2.1 c.2.2.2.2.1 k p=true)
theorem E6 (c:Aj) (k:Int) (p:List YB) (h:Ax c+p.length≤67108864):
  ∃(c':Aj) (f:Au) (z:Int),Ch c (k,()) (p,())=some (c',f,(z,()))∧B9 c (k,()) (p,())=some (c',f,(z,()))∧ChS c k p c' f z:=by
 have hc:=h
 simp only[Ax]at hc
 unfold Ch V9 B9 Wa
 simp only[Af,Ah,Ac]
 rw[Mu c zq0,Lz c zq0,Lr c zq5 zq6,Ls c]
 simp only[Ai]
 cases ho:Ci c with
 |false=>exact⟨c,Ez,1,rfl,rfl,I1 c,rfl,rfl,by simp[Aq,Ez],fun _=>rfl,fun h=>by cases h⟩
 |true=>
  simp only[Bool.not_true,Ap]
  obtain⟨e',f,z,h1,h2,h3,h4,h5,h6⟩:=A5d (I1 c) c.1 c.2.1 k p (by simp only[Bs,I1];omega)
  have hn:=Axl c e' h3
  rw[h1,h2,Ai,Ai]
  have hf:Aq f≤Ax c+p.length+32:=by simp only[Ax];omega
  by_cases hz:z=0
  ·subst hz
   obtain⟨q1,q2,q3,q4,q5,q6⟩:=h6 rfl
   exact⟨Ee c e',f,0,rfl,rfl,e',rfl,hn,hf,fun h=>(h rfl).elim,fun _=>⟨ho,Aqn ho q2 q3,q3,q4,q5,q6⟩⟩
  ·have he:=h5 hz
   subst he
   refine⟨c,f,z,rfl,?_,I1 c,rfl,rfl,hf,fun _=>rfl,fun h=>(hz h).elim⟩
   rw[Dv (by simpa using hz)]
def Nn (n:Int):List YB:=bif inR n 0 4294967295 then Fi n 4 4 else []
theorem At5 (n:Int):(Nn n).length≤4:=by unfold Nn;cases inR n 0 4294967295<;>simp[Ix]
theorem Amj (n:Int):Nu (n,())=some (Nn n,()):=by
 unfold Nu T3 Nn
 simp only[Af,Ah,Ac,C9,Ai]
 cases inR n 0 4294967295 with
 |false=>rfl
 |true=>simp only[Bool.not_true,Ap];rw[Ak0 _ _ (by simp),Ai];rfl
theorem Aa8 (n:Int):Dj (n,())=some (Nn n,()):=by
 unfold Dj Tx Nn
 simp only[Af,Ah,Ac,C4,Ai]
 cases inR n 0 4294967295 with
 |false=>rfl
 |true=>simp only[Bool.not_true,Ap];rw[Rn _ _ (by simp),Ai];rfl
theorem A92 (c:Aj) (h:Ax c≤67000000):
  ∃(c':Aj) (f:Au) (z:Int),Abu c=some (c',f,(z,()))∧Akx c=some (c',f,(z,()))∧Ax c'=Ax c∧Aq f≤Ax c+36∧(z=0→ChS c 8 (Nn c.2.2.1) c' f 0):=by
 have hc:=h
 have hl:=At5 c.2.2.1
 simp only[Ax]at hc
 unfold Abu Aru Akx Arv
 simp only[Af,Ah,Ac]
 rw[Mu c zq0,Lz c zq0,Lr c zq5 zq6,Ls c]
 simp only[Ai]
 cases ho:Ci c with
 |false=>exact⟨c,Ez,6,rfl,rfl,rfl,by simp[Aq,Ez],fun h=>by cases h⟩
 |true=>
  simp only[Bool.not_true,Ap]
  cases hx:(c.1 != (1:Int))with
  |true=>exact⟨c,Ez,6,rfl,rfl,rfl,by simp[Aq,Ez],fun h=>by cases h⟩
  |false=>
   simp only[Ap]
   rw[Amj,Aa8,Ai,Ai]
   obtain⟨c',f,z,h1,h2,h3⟩:=E6 c 8 (Nn c.2.2.1) zq0
   rw[h1,h2,Ai]
   have h3':=h3
   obtain⟨e',q1,q2,q3,q4,q5⟩:=h3
   exact⟨c',f,z,rfl,rfl,q2,by omega,fun hz=>hz▸h3'⟩
end
end Go.Proofs.YtmhhajdeafijmaaGreat
