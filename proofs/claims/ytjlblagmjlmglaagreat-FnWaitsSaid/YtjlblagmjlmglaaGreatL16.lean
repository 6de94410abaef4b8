/-
  That the program and the reference answer alike, in plain terms, and that the laws answer true.
-/
import Derived.Test.YtjlblagmjlmglaaGreatL14
namespace Go.Proofs.YtjlblagmjlmglaaGreat
open Go.RowKit
set_option linter.unusedVariables false
set_option linter.unusedSimpArgs false
set_option maxRecDepth 100000
set_option maxHeartbeats 4000000
noncomputable section
theorem A7j (k:List YB) (r:Int) (sn:List YB) (ep seq kind:Int) (p:List YB):(D6 k r sn ep seq kind p).2.1=H4 k r sn ep seq kind p:=by
 unfold D6
 cases H4 k r sn ep seq kind p<;>rfl
theorem A9l (r:Int) (sn:List YB) (ep seq:Int):(((Cp r sn ep seq).length:Int)==0)= !Ev r sn ep seq:=by
 rw[Ja]
 cases Ev r sn ep seq<;>rfl
def Alz (e:YEp):YEp:=(e.1,e.2.1,e.2.2.1+1,e.2.2.2.1,e.2.2.2.2.1,())
theorem Bba {e:YEp} (h:E0 e=true) (hs:e.2.2.1≠281474976710656):E0 (Alz e)=true:=by
 unfold E0 at h ⊢
 simp only[Bool.and_eq_true,Bf,Alz]at h ⊢
 exact⟨h.1,h.2.1,⟨by omega,by omega⟩,h.2.2.2⟩
def EpS (e:YEp) (role:Int) (sn:List YB) (k:Int) (p:List YB) (e':YEp) (f:Aa) (c:Int):Prop:=
 Bm e'=Bm e∧Ar f≤sn.length+p.length+32∧(c≠0→e'=e)∧(c=0→E0 e=true∧E0 e'=true∧e'.1=e.1∧e'.2.1=e.2.1∧f=(D6 e.2.1 role sn e.1 e.2.2.1 k p).1∧H4 e.2.1 role sn e.1 e.2.2.1 k p=true)
theorem A7k (e:YEp) (role:Int) (sn:List YB) (k:Int) (p:List YB) (h:Bm e+sn.length+p.length≤67108864):
  ∃(e':YEp) (f:Aa) (c:Int),Ahg e (role,()) (sn,()) (k,()) (p,())=some (e',f,(c,()))∧Ag6 e (role,()) (sn,()) (k,()) (p,())=some (e',f,(c,()))∧EpS e role sn k p e' f c:=by
 have hn:=A17 e.2.1 role sn e.1 e.2.2.1 k p
 have he:Bm e=e.2.1.length+e.2.2.2.2.1.length:=rfl
 have none: ∀ {c:Int},c≠0→ ∃(e':YEp) (f:Aa) (c':Int),some (e,Du,(c,()))=some (e',f,(c',()))∧some (e,Du,(c,()))=some (e',f,(c',()))∧EpS e role sn k p e' f c':=fun {c} hc=>
  ⟨e,Du,c,rfl,rfl,rfl,by simp[Ar,Du],fun _=>rfl,fun h=>(hc h).elim⟩
 unfold Ahg Agy Ag6 Af3
 simp only[Ai,Aj,Ad]
 rw[Ap4 e zq0,Ahy e zq0,Asn e zq0,Ay6 e]
 simp only[Al]
 cases ho:E0 e with
 |false=>exact none (c:=1) zq4
 |true=>
  have hk:((e.2.1.length:Int)==32)=true:=by unfold E0 at ho;simp only[Bool.and_eq_true]at ho;exact ho.2.1
  have hseq:inR e.2.2.1 0 281474976710656=true:=by unfold E0 at ho;simp only[Bool.and_eq_true]at ho;exact ho.2.2.1
  rw[Bf]at hseq
  simp only[Bool.not_true,Aq]
  rw[A7c _ _ _ _ _ _ _ zq0 zq0,Al,Ahx,Al,Nh,Al,Ap1,Al]
  simp only[A7j,A9l]
  unfold H4
  rw[hk]
  simp only[Bool.true_and]
  cases hd:Ev role sn e.1 0 with
  |false=>exact none (c:=1) zq4
  |true=>
   cases hkd:inR k 4 8 with
   |false=>exact none (c:=1) zq4
   |true=>
    cases hb:He k (p.length:Int)with
    |false=>exact none (c:=1) zq4
    |true=>
     simp only[Bool.and_self,Bool.not_true,Aq]
     have fin:e.2.2.1≠281474976710656→ ∃(e':YEp) (f:Aa) (c':Int),some (Alz e,(D6 e.2.1 role sn e.1 e.2.2.1 k p).1,((0:Int),()))=some (e',f,(c',()))∧some (Alz e,(D6 e.2.1 role sn e.1 e.2.2.1 k p).1,((0:Int),()))=some (e',f,(c',()))∧EpS e role sn k p e' f c':=fun hs=>
      ⟨Alz e,_,0,rfl,rfl,rfl,hn,fun h=>(h rfl).elim,fun _=>⟨ho,Bba ho hs,rfl,rfl,rfl,by
       unfold H4
       rw[hk,hkd,hb]
       unfold Ev at hd ⊢
       simp only[Bool.and_eq_true,Bf,Bool.and_true]at hd ⊢
       exact⟨trivial,hd.1,hd.2.1,hd.2.2.1,by omega,by omega⟩⟩⟩
     rw[A7c _ _ _ _ _ _ _ zq0 zq0,A7d _ _ _ _ _ _ _ zq0 zq0]
     simp only[Al]
     have go:br (e.2.2.1==(281474976710656:Int)) (some (e,Du,((5:Int),()))) (some ((e.1,e.2.1,(IntKind.i64.wrap (e.2.2.1+(1:Int))),e.2.2.2.1,e.2.2.2.2.1,()),(D6 e.2.1 role sn e.1 e.2.2.1 k p).1,((0:Int),())))=if e.2.2.1=281474976710656 then some (e,Du,((5:Int),()))else some (Alz e,(D6 e.2.1 role sn e.1 e.2.2.1 k p).1,((0:Int),())):=by
      by_cases h5:e.2.2.1=281474976710656
      ·rw[if_pos h5,Ec (by simp[h5])]
      ·rw[if_neg h5,Co (by simp[h5]),w64 zq0];rfl
     have fin2: ∃(e':YEp) (f:Aa) (c':Int),(if e.2.2.1=281474976710656 then some (e,Du,((5:Int),()))else some (Alz e,(D6 e.2.1 role sn e.1 e.2.2.1 k p).1,((0:Int),())))=some (e',f,(c',()))∧(if e.2.2.1=281474976710656 then some (e,Du,((5:Int),()))else some (Alz e,(D6 e.2.1 role sn e.1 e.2.2.1 k p).1,((0:Int),())))=some (e',f,(c',()))∧EpS e role sn k p e' f c':=by
      by_cases h5:e.2.2.1=281474976710656
      ·rw[if_pos h5];exact none (c:=5) zq4
      ·rw[if_neg h5];exact fin h5
     cases hk4:(k==(4:Int))with
     |false=>
      simp only[Aq]
      exact go▸fin2
     |true=>
      simp only[Ax]
      by_cases h4:e.2.2.1≥281474976709656
      ·rw[Ao h4,Ax];exact none (c:=4) zq4
      ·rw[Bb h4,Aq]
       exact go▸fin2
def D8 (c:Af) (e:YEp):Af:=(c.1,c.2.1,e.1,e.2.1,e.2.2.1,e.2.2.2.1,e.2.2.2.2.1,c.2.2.2.2.2.2.2.1,c.2.2.2.2.2.2.2.2.1,c.2.2.2.2.2.2.2.2.2.1,c.2.2.2.2.2.2.2.2.2.2.1,c.2.2.2.2.2.2.2.2.2.2.2.1,c.2.2.2.2.2.2.2.2.2.2.2.2.1,c.2.2.2.2.2.2.2.2.2.2.2.2.2.1,c.2.2.2.2.2.2.2.2.2.2.2.2.2.2.1,())
theorem Asr {c:Af} {e:YEp} (h:Bw c=true) (he:E0 e=true) (h1:e.1=c.2.2.1):Bw (D8 c e)=true:=by
 have e1:Ho (D8 c e)=e:=rfl
 have e2:Kr (D8 c e)=Kr c:=by
  unfold Kr
  have:(D8 c e).2.2.1=c.2.2.1:=h1
  simp only[this]
  rfl
 unfold Bw at h ⊢
 rw[e1,e2]
 simp only[Bool.not_not,Bool.and_eq_true]at h ⊢
 refine⟨h.1,h.2.1,he,h.2.2.2.1,?_⟩
 have:=h.2.2.2.2
 simp only[D8,Cy,h1]at this ⊢
 exact this
theorem Azl (c:Af) (e:YEp) (h:Bm e=Bm (Ho c)):A0 (D8 c e)=A0 c:=by
 simp only[Bm,Ho]at h
 simp only[A0,D8]
 omega
def ChS (c:Af) (k:Int) (p:List YB) (c':Af) (f:Aa) (z:Int):Prop:=
 ∃e':YEp,c'=D8 c e'∧A0 c'=A0 c∧Ar f≤A0 c+p.length+32∧(z≠0→c'=c)∧
  (z=0→Bw c=true∧Bw c'=true∧e'.1=c.2.2.1∧e'.2.1=c.2.2.2.1∧f=(D6 c.2.2.2.1 c.1 c.2.1 c.2.2.1 c.2.2.2.2.1 k p).1∧H4 c.2.2.2.1 c.1 c.2.1 c.2.2.1 c.2.2.2.2.1 k p=true)
theorem A18 (c:Af) (k:Int) (p:List YB) (h:A0 c+p.length≤67108864):
  ∃(c':Af) (f:Aa) (z:Int),Dy c (k,()) (p,())=some (c',f,(z,()))∧Ej c (k,()) (p,())=some (c',f,(z,()))∧ChS c k p c' f z:=by
 have hc:=h
 simp only[A0]at hc
 unfold Dy X6 Ej Xm
 simp only[Ai,Aj,Ad]
 rw[Ahz c zq0,Aa5 c zq0,Z0 c (by dsimp only[Ho];omega) (by dsimp only[L9];omega),Z1 c]
 simp only[Al]
 cases ho:Bw c with
 |false=>exact⟨c,Du,1,rfl,rfl,Ho c,rfl,rfl,by simp[Ar,Du],fun _=>rfl,fun h=>by cases h⟩
 |true=>
  simp only[Bool.not_true,Aq]
  obtain⟨e',f,z,h1,h2,h3,h4,h5,h6⟩:=A7k (Ho c) c.1 c.2.1 k p (by simp only[Bm,Ho];omega)
  have hn:=Azl c e' h3
  rw[h1,h2,Al,Al]
  have hf:Ar f≤A0 c+p.length+32:=by simp only[A0];omega
  by_cases hz:z=0
  ·subst hz
   obtain⟨q1,q2,q3,q4,q5,q6⟩:=h6 rfl
   exact⟨D8 c e',f,0,rfl,rfl,e',rfl,hn,hf,fun h=>(h rfl).elim,fun _=>⟨ho,Asr ho q2 q3,q3,q4,q5,q6⟩⟩
  ·have he:=h5 hz
   subst he
   refine⟨c,f,z,rfl,?_,Ho c,rfl,rfl,hf,fun _=>rfl,fun h=>(hz h).elim⟩
   rw[Co (by simpa using hz)]
def Al0 (n:Int):List YB:=bif inR n 0 4294967295 then Fg n 4 4 else []
theorem A7l (n:Int):(Al0 n).length≤4:=by unfold Al0;cases inR n 0 4294967295<;>simp[Gf]
theorem A19 (n:Int):J2 (n,())=some (Al0 n,()):=by
 unfold J2 S8 Al0
 simp only[Ai,Aj,Ad,Bv,Al]
 cases inR n 0 4294967295 with
 |false=>rfl
 |true=>simp only[Bool.not_true,Aq];rw[Qq _ _ zq3,Al];rfl
end
end Go.Proofs.YtjlblagmjlmglaaGreat
