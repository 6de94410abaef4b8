/-
  That the program and the reference answer alike, in plain terms, and that the laws answer true.
-/
import Derived.Test.YtmhhajdeafijmaaGreatL14
namespace Go.Proofs.YtmhhajdeafijmaaGreat
open Go.RowKit
set_option linter.unusedVariables false
set_option linter.unusedSimpArgs false
set_option maxRecDepth 100000
set_option maxHeartbeats 4000000
noncomputable section
theorem A7q (k:List YB) (r:Int) (sn:List YB) (ep seq kind:Int) (p:List YB):(Dx k r sn ep seq kind p).2.1=Hx k r sn ep seq kind p:=by
 unfold Dx
 cases Hx k r sn ep seq kind p<;>rfl
theorem A9o (r:Int) (sn:List YB) (ep seq:Int):(((Cr r sn ep seq).length:Int)==0)= !Eo r sn ep seq:=by
 rw[I6]
 cases Eo r sn ep seq<;>rfl
def Amf (e:YEp):YEp:=(e.1,e.2.1,e.2.2.1+1,e.2.2.2.1,e.2.2.2.2.1,())
theorem Bbd {e:YEp} (h:Es e=true) (hs:e.2.2.1≠281474976710656):Es (Amf e)=true:=by
 unfold Es at h ⊢
 simp only[Bool.and_eq_true,Bt,Amf]at h ⊢
 exact⟨h.1,h.2.1,⟨by omega,by omega⟩,h.2.2.2⟩
def EpS (e:YEp) (role:Int) (sn:List YB) (k:Int) (p:List YB) (e':YEp) (f:Ab) (c:Int):Prop:=
 Bp e'=Bp e∧Ar f≤sn.length+p.length+32∧(c≠0→e'=e)∧(c=0→Es e=true∧Es e'=true∧e'.1=e.1∧e'.2.1=e.2.1∧f=(Dx e.2.1 role sn e.1 e.2.2.1 k p).1∧Hx e.2.1 role sn e.1 e.2.2.1 k p=true)
theorem A7r (e:YEp) (role:Int) (sn:List YB) (k:Int) (p:List YB) (h:Bp e+sn.length+p.length≤67108864):
  ∃(e':YEp) (f:Ab) (c:Int),Ahk e (role,()) (sn,()) (k,()) (p,())=some (e',f,(c,()))∧Af6 e (role,()) (sn,()) (k,()) (p,())=some (e',f,(c,()))∧EpS e role sn k p e' f c:=by
 have hn:=A2j e.2.1 role sn e.1 e.2.2.1 k p
 have he:Bp e=e.2.1.length+e.2.2.2.2.1.length:=rfl
 have none: ∀ {c:Int},c≠0→ ∃(e':YEp) (f:Ab) (c':Int),some (e,Dp,(c,()))=some (e',f,(c',()))∧some (e,Dp,(c,()))=some (e',f,(c',()))∧EpS e role sn k p e' f c':=fun {c} hc=>
  ⟨e,Dp,c,rfl,rfl,rfl,by simp[Ar,Dp],fun _=>rfl,fun h=>(hc h).elim⟩
 unfold Ahk Ahj Af6 Af5
 simp only[Aj,Al,Af]
 rw[Aqk e zq0,Aig e zq0,Asz e zq0,Azd e]
 simp only[An]
 cases ho:Es e with
 |false=>exact none (c:=1) zq4
 |true=>
  have hk:((e.2.1.length:Int)==32)=true:=by unfold Es at ho;simp only[Bool.and_eq_true]at ho;exact ho.2.1
  have hseq:inR e.2.2.1 0 281474976710656=true:=by unfold Es at ho;simp only[Bool.and_eq_true]at ho;exact ho.2.2.1
  rw[Bt]at hseq
  simp only[Bool.not_true,Aw]
  rw[A7i _ _ _ _ _ _ _ zq0 zq0,An,Aif,An,Na,An,Aqh,An]
  simp only[A7q,A9o]
  unfold Hx
  rw[hk]
  simp only[Bool.true_and]
  cases hd:Eo role sn e.1 0 with
  |false=>exact none (c:=1) zq4
  |true=>
   cases hkd:inR k 4 8 with
   |false=>exact none (c:=1) zq4
   |true=>
    cases hb:G8 k (p.length:Int)with
    |false=>exact none (c:=1) zq4
    |true=>
     simp only[Bool.and_self,Bool.not_true,Aw]
     have fin:e.2.2.1≠281474976710656→ ∃(e':YEp) (f:Ab) (c':Int),some (Amf e,(Dx e.2.1 role sn e.1 e.2.2.1 k p).1,((0:Int),()))=some (e',f,(c',()))∧some (Amf e,(Dx e.2.1 role sn e.1 e.2.2.1 k p).1,((0:Int),()))=some (e',f,(c',()))∧EpS e role sn k p e' f c':=fun hs=>
      ⟨Amf e,_,0,rfl,rfl,rfl,hn,fun h=>(h rfl).elim,fun _=>⟨ho,Bbd ho hs,rfl,rfl,rfl,by
       unfold Hx
       rw[hk,hkd,hb]
       unfold Eo at hd ⊢
       simp only[Bool.and_eq_true,Bt,Bool.and_true]at hd ⊢
       exact⟨trivial,hd.1,hd.2.1,hd.2.2.1,by omega,by omega⟩⟩⟩
     rw[A7i _ _ _ _ _ _ _ zq0 zq0,A7j _ _ _ _ _ _ _ zq0 zq0]
     simp only[An]
     have go:br (e.2.2.1==(281474976710656:Int)) (some (e,Dp,((5:Int),()))) (some ((e.1,e.2.1,(IntKind.i64.wrap (e.2.2.1+(1:Int))),e.2.2.2.1,e.2.2.2.2.1,()),(Dx e.2.1 role sn e.1 e.2.2.1 k p).1,((0:Int),())))=if e.2.2.1=281474976710656 then some (e,Dp,((5:Int),()))else some (Amf e,(Dx e.2.1 role sn e.1 e.2.2.1 k p).1,((0:Int),())):=by
      by_cases h5:e.2.2.1=281474976710656
      ·rw[if_pos h5,D6 (by simp[h5])]
      ·rw[if_neg h5,Cp (by simp[h5]),w64 zq0];rfl
     have fin2: ∃(e':YEp) (f:Ab) (c':Int),(if e.2.2.1=281474976710656 then some (e,Dp,((5:Int),()))else some (Amf e,(Dx e.2.1 role sn e.1 e.2.2.1 k p).1,((0:Int),())))=some (e',f,(c',()))∧(if e.2.2.1=281474976710656 then some (e,Dp,((5:Int),()))else some (Amf e,(Dx e.2.1 role sn e.1 e.2.2.1 k p).1,((0:Int),())))=some (e',f,(c',()))∧EpS e role sn k p e' f c':=by
      by_cases h5:e.2.2.1=281474976710656
      ·rw[if_pos h5];exact none (c:=5) zq4
      ·rw[if_neg h5];exact fin h5
     cases hk4:(k==(4:Int))with
     |false=>
      simp only[Aw]
      exact go▸fin2
     |true=>
      simp only[Az]
      by_cases h4:e.2.2.1≥281474976709656
      ·rw[Ap h4,Az];exact none (c:=4) zq4
      ·rw[Bg h4,Aw]
       exact go▸fin2
def Dz (c:Ai) (e:YEp):Ai:=(c.1,c.2.1,e.1,e.2.1,e.2.2.1,e.2.2.2.1,e.2.2.2.2.1,c.2.2.2.2.2.2.2.1,c.2.2.2.2.2.2.2.2.1,c.2.2.2.2.2.2.2.2.2.1,c.2.2.2.2.2.2.2.2.2.2.1,c.2.2.2.2.2.2.2.2.2.2.2.1,c.2.2.2.2.2.2.2.2.2.2.2.2.1,c.2.2.2.2.2.2.2.2.2.2.2.2.2.1,c.2.2.2.2.2.2.2.2.2.2.2.2.2.2.1,())
theorem As3 {c:Ai} {e:YEp} (h:B4 c=true) (he:Es e=true) (h1:e.1=c.2.2.1):B4 (Dz c e)=true:=by
 have e1:Hl (Dz c e)=e:=rfl
 have e2:Kl (Dz c e)=Kl c:=by
  unfold Kl
  have:(Dz c e).2.2.1=c.2.2.1:=h1
  simp only[this]
  rfl
 unfold B4 at h ⊢
 rw[e1,e2]
 simp only[Bool.not_not,Bool.and_eq_true]at h ⊢
 refine⟨h.1,h.2.1,he,h.2.2.2.1,?_⟩
 have:=h.2.2.2.2
 simp only[Dz,C6,h1]at this ⊢
 exact this
theorem Azs (c:Ai) (e:YEp) (h:Bp e=Bp (Hl c)):A0 (Dz c e)=A0 c:=by
 simp only[Bp,Hl]at h
 simp only[A0,Dz]
 omega
def ChS (c:Ai) (k:Int) (p:List YB) (c':Ai) (f:Ab) (z:Int):Prop:=
 ∃e':YEp,c'=Dz c e'∧A0 c'=A0 c∧Ar f≤A0 c+p.length+32∧(z≠0→c'=c)∧
  (z=0→B4 c=true∧B4 c'=true∧e'.1=c.2.2.1∧e'.2.1=c.2.2.2.1∧f=(Dx c.2.2.2.1 c.1 c.2.1 c.2.2.1 c.2.2.2.2.1 k p).1∧Hx c.2.2.2.1 c.1 c.2.1 c.2.2.1 c.2.2.2.2.1 k p=true)
theorem A2l (c:Ai) (k:Int) (p:List YB) (h:A0 c+p.length≤67108864):
  ∃(c':Ai) (f:Ab) (z:Int),Eb c (k,()) (p,())=some (c',f,(z,()))∧Ea c (k,()) (p,())=some (c',f,(z,()))∧ChS c k p c' f z:=by
 have hc:=h
 simp only[A0]at hc
 unfold Eb Zl Ea Xn
 simp only[Aj,Al,Af]
 rw[Aih c zq0,Abe c zq0,Z4 c (by dsimp only[Hl];omega) (by dsimp only[L3];omega),Z5 c]
 simp only[An]
 cases ho:B4 c with
 |false=>exact⟨c,Dp,1,rfl,rfl,Hl c,rfl,rfl,by simp[Ar,Dp],fun _=>rfl,fun h=>by cases h⟩
 |true=>
  simp only[Bool.not_true,Aw]
  obtain⟨e',f,z,h1,h2,h3,h4,h5,h6⟩:=A7r (Hl c) c.1 c.2.1 k p (by simp only[Bp,Hl];omega)
  have hn:=Azs c e' h3
  rw[h1,h2,An,An]
  have hf:Ar f≤A0 c+p.length+32:=by simp only[A0];omega
  by_cases hz:z=0
  ·subst hz
   obtain⟨q1,q2,q3,q4,q5,q6⟩:=h6 rfl
   exact⟨Dz c e',f,0,rfl,rfl,e',rfl,hn,hf,fun h=>(h rfl).elim,fun _=>⟨ho,As3 ho q2 q3,q3,q4,q5,q6⟩⟩
  ·have he:=h5 hz
   subst he
   refine⟨c,f,z,rfl,?_,Hl c,rfl,rfl,hf,fun _=>rfl,fun h=>(hz h).elim⟩
   rw[Cp (by simpa using hz)]
def Amg (n:Int):List YB:=bif inR n 0 4294967295 then Fb n 4 4 else []
theorem A7s (n:Int):(Amg n).length≤4:=by unfold Amg;cases inR n 0 4294967295<;>simp[F7]
theorem A2m (n:Int):Jv (n,())=some (Amg n,()):=by
 unfold Jv S4 Amg
 simp only[Aj,Al,Af,Cz,An]
 cases inR n 0 4294967295 with
 |false=>rfl
 |true=>simp only[Bool.not_true,Aw];rw[Qr _ _ zq3,An];rfl
end
end Go.Proofs.YtmhhajdeafijmaaGreat
