/-
  That the program and the reference answer alike, in plain terms, and that the laws answer true.
-/
import Derived.Test.YtmhhajdeafijmaaGreatL14
namespace Go.Proofs.YtmhhajdeafijmaaGreat
open Go.RowKit
set_option linter.unusedVariables false
set_option linter.unusedSimpArgs false
set_option maxRecDepth 100000
set_option maxHeartbeats 4000000
noncomputable section
theorem A6z (k:List YB) (r:Int) (sn:List YB) (ep seq kind:Int) (p:List YB):(Be k r sn ep seq kind p).2.1=D7 k r sn ep seq kind p:=by
 unfold Be
 cases D7 k r sn ep seq kind p<;>rfl
theorem A8s (r:Int) (sn:List YB) (ep seq:Int):(((Bz r sn ep seq).length:Int)==0)= !Dc r sn ep seq:=by
 rw[Ha]
 cases Dc r sn ep seq<;>rfl
def Al6 (e:YEp):YEp:=(e.1,e.2.1,e.2.2.1+1,e.2.2.2.1,e.2.2.2.2.1,())
theorem Bap {e:YEp} (h:Dm e=true) (hs:e.2.2.1≠281474976710656):Dm (Al6 e)=true:=by
 unfold Dm at h ⊢
 simp only[Bool.and_eq_true,A6,Al6]at h ⊢
 exact⟨h.1,h.2.1,⟨by omega,by omega⟩,h.2.2.2⟩
def EpS (e:YEp) (role:Int) (sn:List YB) (k:Int) (p:List YB) (e':YEp) (f:Aa) (c:Int):Prop:=
 Bj e'=Bj e∧As f≤sn.length+p.length+32∧(c≠0→e'=e)∧(c=0→Dm e=true∧Dm e'=true∧e'.1=e.1∧e'.2.1=e.2.1∧f=(Be e.2.1 role sn e.1 e.2.2.1 k p).1∧D7 e.2.1 role sn e.1 e.2.2.1 k p=true)
theorem A60 (e:YEp) (role:Int) (sn:List YB) (k:Int) (p:List YB) (h:Bj e+sn.length+p.length≤67108864):
  ∃(e':YEp) (f:Aa) (c:Int),Ahw e (role,()) (sn,()) (k,()) (p,())=some (e',f,(c,()))∧Ahs e (role,()) (sn,()) (k,()) (p,())=some (e',f,(c,()))∧EpS e role sn k p e' f c:=by
 have hn:=Nb e.2.1 role sn e.1 e.2.2.1 k p
 have he:Bj e=e.2.1.length+e.2.2.2.2.1.length:=rfl
 have none: ∀ {c:Int},c≠0→ ∃(e':YEp) (f:Aa) (c':Int),some (e,Dz,(c,()))=some (e',f,(c',()))∧some (e,Dz,(c,()))=some (e',f,(c',()))∧EpS e role sn k p e' f c':=fun {c} hc=>
  ⟨e,Dz,c,rfl,rfl,rfl,by simp[As,Dz],fun _=>rfl,fun h=>(hc h).elim⟩
 unfold Ahw Ahf Ahs Agq
 simp only[Ag,Ai,Ad]
 rw[Aih e zq0,Aii e zq0,Alu e zq0,Ayy e]
 simp only[Aj]
 cases ho:Dm e with
 |false=>exact none (c:=1) zq4
 |true=>
  have hk:((e.2.1.length:Int)==32)=true:=by unfold Dm at ho;simp only[Bool.and_eq_true]at ho;exact ho.2.1
  have hseq:inR e.2.2.1 0 281474976710656=true:=by unfold Dm at ho;simp only[Bool.and_eq_true]at ho;exact ho.2.2.1
  rw[A6]at hseq
  simp only[Bool.not_true,An]
  rw[A6t _ _ _ _ _ _ _ zq0 zq0,Aj,Aig,Aj,Ln,Aj,Aqc,Aj]
  simp only[A6z,A8s]
  unfold D7
  rw[hk]
  simp only[Bool.true_and]
  cases hd:Dc role sn e.1 0 with
  |false=>exact none (c:=1) zq4
  |true=>
   cases hkd:inR k 4 8 with
   |false=>exact none (c:=1) zq4
   |true=>
    cases hb:Ft k (p.length:Int)with
    |false=>exact none (c:=1) zq4
    |true=>
     simp only[Bool.and_self,Bool.not_true,An]
     have fin:e.2.2.1≠281474976710656→ ∃(e':YEp) (f:Aa) (c':Int),some (Al6 e,(Be e.2.1 role sn e.1 e.2.2.1 k p).1,((0:Int),()))=some (e',f,(c',()))∧some (Al6 e,(Be e.2.1 role sn e.1 e.2.2.1 k p).1,((0:Int),()))=some (e',f,(c',()))∧EpS e role sn k p e' f c':=fun hs=>
      ⟨Al6 e,_,0,rfl,rfl,rfl,hn,fun h=>(h rfl).elim,fun _=>⟨ho,Bap ho hs,rfl,rfl,rfl,by
       unfold D7
       rw[hk,hkd,hb]
       unfold Dc at hd ⊢
       simp only[Bool.and_eq_true,A6,Bool.and_true]at hd ⊢
       exact⟨trivial,hd.1,hd.2.1,hd.2.2.1,by omega,by omega⟩⟩⟩
     rw[A6t _ _ _ _ _ _ _ zq0 zq0,Ay8 _ _ _ _ _ _ _ zq0 zq0]
     simp only[Aj]
     have go:br (e.2.2.1==(281474976710656:Int)) (some (e,Dz,((5:Int),()))) (some ((e.1,e.2.1,(IntKind.i64.wrap (e.2.2.1+(1:Int))),e.2.2.2.1,e.2.2.2.2.1,()),(Be e.2.1 role sn e.1 e.2.2.1 k p).1,((0:Int),())))=if e.2.2.1=281474976710656 then some (e,Dz,((5:Int),()))else some (Al6 e,(Be e.2.1 role sn e.1 e.2.2.1 k p).1,((0:Int),())):=by
      by_cases h5:e.2.2.1=281474976710656
      ·rw[if_pos h5,Ej (by simp[h5])]
      ·rw[if_neg h5,Cp (by simp[h5]),w64 zq0];rfl
     have fin2: ∃(e':YEp) (f:Aa) (c':Int),(if e.2.2.1=281474976710656 then some (e,Dz,((5:Int),()))else some (Al6 e,(Be e.2.1 role sn e.1 e.2.2.1 k p).1,((0:Int),())))=some (e',f,(c',()))∧(if e.2.2.1=281474976710656 then some (e,Dz,((5:Int),()))else some (Al6 e,(Be e.2.1 role sn e.1 e.2.2.1 k p).1,((0:Int),())))=some (e',f,(c',()))∧EpS e role sn k p e' f c':=by
      by_cases h5:e.2.2.1=281474976710656
      ·rw[if_pos h5];exact none (c:=5) zq4
      ·rw[if_neg h5];exact fin h5
     cases hk4:(k==(4:Int))with
     |false=>
      simp only[An]
      exact go▸fin2
     |true=>
      simp only[Aw]
      by_cases h4:e.2.2.1≥281474976709656
      ·rw[Am h4,Aw];exact none (c:=4) zq4
      ·rw[A8 h4,An]
       exact go▸fin2
def Eb (c:Af) (e:YEp):Af:=(c.1,c.2.1,e.1,e.2.1,e.2.2.1,e.2.2.2.1,e.2.2.2.2.1,c.2.2.2.2.2.2.2.1,c.2.2.2.2.2.2.2.2.1,c.2.2.2.2.2.2.2.2.2.1,c.2.2.2.2.2.2.2.2.2.2.1,c.2.2.2.2.2.2.2.2.2.2.2.1,c.2.2.2.2.2.2.2.2.2.2.2.2.1,c.2.2.2.2.2.2.2.2.2.2.2.2.2.1,c.2.2.2.2.2.2.2.2.2.2.2.2.2.2.1,())
theorem Aso {c:Af} {e:YEp} (h:Bd c=true) (he:Dm e=true) (h1:e.1=c.2.2.1):Bd (Eb c e)=true:=by
 have e1:Gj (Eb c e)=e:=rfl
 have e2:Hu (Eb c e)=Hu c:=by
  unfold Hu
  have:(Eb c e).2.2.1=c.2.2.1:=h1
  simp only[this]
  rfl
 unfold Bd at h ⊢
 rw[e1,e2]
 simp only[Bool.not_not,Bool.and_eq_true]at h ⊢
 refine⟨h.1,h.2.1,he,h.2.2.2.1,?_⟩
 have:=h.2.2.2.2
 simp only[Eb,Bl,h1]at this ⊢
 exact this
theorem Aze (c:Af) (e:YEp) (h:Bj e=Bj (Gj c)):Ar (Eb c e)=Ar c:=by
 simp only[Bj,Gj]at h
 simp only[Ar,Eb]
 omega
def ChS (c:Af) (k:Int) (p:List YB) (c':Af) (f:Aa) (z:Int):Prop:=
 ∃e':YEp,c'=Eb c e'∧Ar c'=Ar c∧As f≤Ar c+p.length+32∧(z≠0→c'=c)∧
  (z=0→Bd c=true∧Bd c'=true∧e'.1=c.2.2.1∧e'.2.1=c.2.2.2.1∧f=(Be c.2.2.2.1 c.1 c.2.1 c.2.2.1 c.2.2.2.2.1 k p).1∧D7 c.2.2.2.1 c.1 c.2.1 c.2.2.1 c.2.2.2.2.1 k p=true)
theorem Ad0 (c:Af) (k:Int) (p:List YB) (h:Ar c+p.length≤67108864):
  ∃(c':Af) (f:Aa) (z:Int),Dp c (k,()) (p,())=some (c',f,(z,()))∧Eo c (k,()) (p,())=some (c',f,(z,()))∧ChS c k p c' f z:=by
 have hc:=h
 simp only[Ar]at hc
 unfold Dp Zq Eo Za
 simp only[Ag,Ai,Ad]
 rw[Me c zq0,Tb c zq0,Lm c zq7 zq8,Rb c]
 simp only[Aj]
 cases ho:Bd c with
 |false=>exact⟨c,Dz,1,rfl,rfl,Gj c,rfl,rfl,by simp[As,Dz],fun _=>rfl,fun h=>by cases h⟩
 |true=>
  simp only[Bool.not_true,An]
  obtain⟨e',f,z,h1,h2,h3,h4,h5,h6⟩:=A60 (Gj c) c.1 c.2.1 k p (by simp only[Bj,Gj];omega)
  have hn:=Aze c e' h3
  rw[h1,h2,Aj,Aj]
  have hf:As f≤Ar c+p.length+32:=by simp only[Ar];omega
  by_cases hz:z=0
  ·subst hz
   obtain⟨q1,q2,q3,q4,q5,q6⟩:=h6 rfl
   exact⟨Eb c e',f,0,rfl,rfl,e',rfl,hn,hf,fun h=>(h rfl).elim,fun _=>⟨ho,Aso ho q2 q3,q3,q4,q5,q6⟩⟩
  ·have he:=h5 hz
   subst he
   refine⟨c,f,z,rfl,?_,Gj c,rfl,rfl,hf,fun _=>rfl,fun h=>(hz h).elim⟩
   rw[Cp (by simpa using hz)]
def Ce (n:Int):List YB:=bif inR n 0 4294967295 then E5 n 4 4 else []
theorem Abz (n:Int):(Ce n).length≤4:=by unfold Ce;cases inR n 0 4294967295<;>simp[Gn]
theorem A1y (n:Int):T5 (n,())=some (Ce n,()):=by
 unfold T5 T2 Ce
 simp only[Ag,Ai,Ad,Br,Aj]
 cases inR n 0 4294967295 with
 |false=>rfl
 |true=>simp only[Bool.not_true,An];rw[Afe _ _ zq3,Aj];rfl
theorem Aou (n:Int):H0 (n,())=some (Ce n,()):=by
 unfold H0 Tt Ce
 simp only[Ag,Ai,Ad,Cb,Aj]
 cases inR n 0 4294967295 with
 |false=>rfl
 |true=>simp only[Bool.not_true,An];rw[Rc _ _ zq3,Aj];rfl
end
end Go.Proofs.YtmhhajdeafijmaaGreat
