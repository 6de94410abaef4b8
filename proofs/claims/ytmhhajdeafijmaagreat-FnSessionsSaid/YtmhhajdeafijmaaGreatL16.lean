/-
  That the program and the reference answer alike, in plain terms, and that the laws answer true.
-/
import Derived.Test.YtmhhajdeafijmaaGreatL14
namespace Go.Proofs.YtmhhajdeafijmaaGreat
open Go.RowKit
set_option linter.unusedVariables false
set_option linter.unusedSimpArgs false
set_option maxRecDepth 100000
set_option maxHeartbeats 4000000
noncomputable section
theorem Ar4 (k:List YB) (r:Int) (sn:List YB) (ep seq kind:Int) (p:List YB):(Es k r sn ep seq kind p).2.1=Is k r sn ep seq kind p:=by
 unfold Es
 cases Is k r sn ep seq kind p<;>rfl
theorem A45 (r:Int) (sn:List YB) (ep seq:Int):(((C8 r sn ep seq).length:Int)==0)= !E0 r sn ep seq:=by
 rw[J4]
 cases E0 r sn ep seq<;>rfl
def Aie (e:YEp):YEp:=(e.1,e.2.1,e.2.2.1+1,e.2.2.2.1,e.2.2.2.2.1,())
theorem A6v {e:YEp} (h:Dt e=true) (hs:e.2.2.1≠281474976710656):Dt (Aie e)=true:=by
 unfold Dt at h ⊢
 simp only[Bool.and_eq_true,Bl,Aie]at h ⊢
 exact⟨h.1,h.2.1,⟨by omega,by omega⟩,h.2.2.2⟩
def EpS (e:YEp) (role:Int) (sn:List YB) (k:Int) (p:List YB) (e':YEp) (f:Au) (c:Int):Prop:=
 Bx e'=Bx e∧Aq f≤sn.length+p.length+32∧(c≠0→e'=e)∧(c=0→Dt e=true∧Dt e'=true∧e'.1=e.1∧e'.2.1=e.2.1∧f=(Es e.2.1 role sn e.1 e.2.2.1 k p).1∧Is e.2.1 role sn e.1 e.2.2.1 k p=true)
theorem A28 (e:YEp) (role:Int) (sn:List YB) (k:Int) (p:List YB) (h:Bx e+sn.length+p.length≤67108864):
  ∃(e':YEp) (f:Au) (c:Int),Uw e (role,()) (sn,()) (k,()) (p,())=some (e',f,(c,()))∧V_s_EpSeal e (role,()) (sn,()) (k,()) (p,())=some (e',f,(c,()))∧EpS e role sn k p e' f c:=by
 have hn:=Ax5 e.2.1 role sn e.1 e.2.2.1 k p
 have he:Bx e=e.2.1.length+e.2.2.2.2.1.length:=rfl
 have none: ∀ {c:Int},c≠0→ ∃(e':YEp) (f:Au) (c':Int),some (e,Fe,(c,()))=some (e',f,(c',()))∧some (e,Fe,(c,()))=some (e',f,(c',()))∧EpS e role sn k p e' f c':=fun {c} hc=>
  ⟨e,Fe,c,rfl,rfl,rfl,by simp[Aq,Fe],fun _=>rfl,fun h=>(hc h).elim⟩
 unfold Uw Uv V_s_EpSeal T_s_EpSeal
 simp only[Ae,Ai,Ac]
 rw[Al4 e zq0,Ae3 e zq0,Ah7 e zq0,Auy e]
 simp only[Ag]
 cases ho:Dt e with
 |false=>exact none (c:=1) zq4
 |true=>
  have hk:((e.2.1.length:Int)==32)=true:=by unfold Dt at ho;simp only[Bool.and_eq_true]at ho;exact ho.2.1
  have hseq:inR e.2.2.1 0 281474976710656=true:=by unfold Dt at ho;simp only[Bool.and_eq_true]at ho;exact ho.2.2.1
  rw[Bl]at hseq
  simp only[Bool.not_true,Am]
  rw[Aoj _ _ _ _ _ _ _ zq0 zq0,Ag,Ae2,Ag,Rw,Ag,Al1,Ag]
  simp only[Ar4,A45]
  unfold Is
  rw[hk]
  simp only[Bool.true_and]
  cases hd:E0 role sn e.1 0 with
  |false=>exact none (c:=1) zq4
  |true=>
   cases hkd:inR k 4 8 with
   |false=>exact none (c:=1) zq4
   |true=>
    cases hb:G7 k (p.length:Int)with
    |false=>exact none (c:=1) zq4
    |true=>
     simp only[Bool.and_self,Bool.not_true,Am]
     have fin:e.2.2.1≠281474976710656→ ∃(e':YEp) (f:Au) (c':Int),some (Aie e,(Es e.2.1 role sn e.1 e.2.2.1 k p).1,((0:Int),()))=some (e',f,(c',()))∧some (Aie e,(Es e.2.1 role sn e.1 e.2.2.1 k p).1,((0:Int),()))=some (e',f,(c',()))∧EpS e role sn k p e' f c':=fun hs=>
      ⟨Aie e,_,0,rfl,rfl,rfl,hn,fun h=>(h rfl).elim,fun _=>⟨ho,A6v ho hs,rfl,rfl,rfl,by
       unfold Is
       rw[hk,hkd,hb]
       unfold E0 at hd ⊢
       simp only[Bool.and_eq_true,Bl,Bool.and_true]at hd ⊢
       exact⟨trivial,hd.1,hd.2.1,hd.2.2.1,by omega,by omega⟩⟩⟩
     rw[Aoj _ _ _ _ _ _ _ zq0 zq0,A22 _ _ _ _ _ _ _ zq0 zq0]
     simp only[Ag]
     have go:br (e.2.2.1==(281474976710656:Int)) (some (e,Fe,((5:Int),()))) (some ((e.1,e.2.1,(IntKind.i64.wrap (e.2.2.1+(1:Int))),e.2.2.2.1,e.2.2.2.2.1,()),(Es e.2.1 role sn e.1 e.2.2.1 k p).1,((0:Int),())))=if e.2.2.1=281474976710656 then some (e,Fe,((5:Int),()))else some (Aie e,(Es e.2.1 role sn e.1 e.2.2.1 k p).1,((0:Int),())):=by
      by_cases h5:e.2.2.1=281474976710656
      ·rw[if_pos h5,Fg (by simp[h5])]
      ·rw[if_neg h5,C4 (by simp[h5]),w64 zq0];rfl
     have fin2: ∃(e':YEp) (f:Au) (c':Int),(if e.2.2.1=281474976710656 then some (e,Fe,((5:Int),()))else some (Aie e,(Es e.2.1 role sn e.1 e.2.2.1 k p).1,((0:Int),())))=some (e',f,(c',()))∧(if e.2.2.1=281474976710656 then some (e,Fe,((5:Int),()))else some (Aie e,(Es e.2.1 role sn e.1 e.2.2.1 k p).1,((0:Int),())))=some (e',f,(c',()))∧EpS e role sn k p e' f c':=by
      by_cases h5:e.2.2.1=281474976710656
      ·rw[if_pos h5];exact none (c:=5) zq4
      ·rw[if_neg h5];exact fin h5
     cases hk4:(k==(4:Int))with
     |false=>
      simp only[Am]
      exact go▸fin2
     |true=>
      simp only[A0]
      by_cases h4:e.2.2.1≥281474976709656
      ·rw[Ak h4,A0];exact none (c:=4) zq4
      ·rw[Bh h4,Am]
       exact go▸fin2
def Em (c:Al) (e:YEp):Al:=(c.1,c.2.1,e.1,e.2.1,e.2.2.1,e.2.2.2.1,e.2.2.2.2.1,c.2.2.2.2.2.2.2.1,c.2.2.2.2.2.2.2.2.1,c.2.2.2.2.2.2.2.2.2.1,c.2.2.2.2.2.2.2.2.2.2.1,c.2.2.2.2.2.2.2.2.2.2.2.1,c.2.2.2.2.2.2.2.2.2.2.2.2.1,c.2.2.2.2.2.2.2.2.2.2.2.2.2.1,c.2.2.2.2.2.2.2.2.2.2.2.2.2.2.1,())
theorem Aop {c:Al} {e:YEp} (h:Bo c=true) (he:Dt e=true) (h1:e.1=c.2.2.1):Bo (Em c e)=true:=by
 have e1:H3 (Em c e)=e:=rfl
 have e2:H4 (Em c e)=H4 c:=by
  unfold H4
  have:(Em c e).2.2.1=c.2.2.1:=h1
  simp only[this]
  rfl
 unfold Bo at h ⊢
 rw[e1,e2]
 simp only[Bool.not_not,Bool.and_eq_true]at h ⊢
 refine⟨h.1,h.2.1,he,h.2.2.2.1,?_⟩
 have:=h.2.2.2.2
 simp only[Em,Ir,h1]at this ⊢
 exact this
theorem Avb (c:Al) (e:YEp) (h:Bx e=Bx (H3 c)):Av (Em c e)=Av c:=by
 simp only[Bx,H3]at h
 simp only[Av,Em]
 omega
def ChS (c:Al) (k:Int) (p:List YB) (c':Al) (f:Au) (z:Int):Prop:=
 ∃e':YEp,c'=Em c e'∧Av c'=Av c∧Aq f≤Av c+p.length+32∧(z≠0→c'=c)∧
  (z=0→Bo c=true∧Bo c'=true∧e'.1=c.2.2.1∧e'.2.1=c.2.2.2.1∧f=(Es c.2.2.2.1 c.1 c.2.1 c.2.2.1 c.2.2.2.2.1 k p).1∧Is c.2.2.2.1 c.1 c.2.1 c.2.2.1 c.2.2.2.2.1 k p=true)
theorem Ek (c:Al) (k:Int) (p:List YB) (h:Av c+p.length≤67108864):
  ∃(c':Al) (f:Au) (z:Int),Bm c (k,()) (p,())=some (c',f,(z,()))∧V_s_ChanSeal c (k,()) (p,())=some (c',f,(z,()))∧ChS c k p c' f z:=by
 have hc:=h
 simp only[Av]at hc
 unfold Bm Qd V_s_ChanSeal T_s_ChanSeal
 simp only[Ae,Ai,Ac]
 rw[Ki c zq0,Md c zq0,Ma c zq6 zq7,Mb c]
 simp only[Ag]
 cases ho:Bo c with
 |false=>exact⟨c,Fe,1,rfl,rfl,H3 c,rfl,rfl,by simp[Aq,Fe],fun _=>rfl,fun h=>by cases h⟩
 |true=>
  simp only[Bool.not_true,Am]
  obtain⟨e',f,z,h1,h2,h3,h4,h5,h6⟩:=A28 (H3 c) c.1 c.2.1 k p (by simp only[Bx,H3];omega)
  have hn:=Avb c e' h3
  rw[h1,h2,Ag,Ag]
  have hf:Aq f≤Av c+p.length+32:=by simp only[Av];omega
  by_cases hz:z=0
  ·subst hz
   obtain⟨q1,q2,q3,q4,q5,q6⟩:=h6 rfl
   exact⟨Em c e',f,0,rfl,rfl,e',rfl,hn,hf,fun h=>(h rfl).elim,fun _=>⟨ho,Aop ho q2 q3,q3,q4,q5,q6⟩⟩
  ·have he:=h5 hz
   subst he
   refine⟨c,f,z,rfl,?_,H3 c,rfl,rfl,hf,fun _=>rfl,fun h=>(hz h).elim⟩
   rw[C4 (by simpa using hz)]
def Nt (n:Int):List YB:=bif inR n 0 4294967295 then Ft n 4 4 else []
theorem Ar5 (n:Int):(Nt n).length≤4:=by unfold Nt;cases inR n 0 4294967295<;>simp[Gz]
theorem Akw (n:Int):N6 (n,())=some (Nt n,()):=by
 unfold N6 Ua Nt
 simp only[Ae,Ai,Ac,Ch,Ag]
 cases inR n 0 4294967295 with
 |false=>rfl
 |true=>simp only[Bool.not_true,Am];rw[Ab4 _ _ zq3,Ag];rfl
theorem Aa2 (n:Int):Ej (n,())=some (Nt n,()):=by
 unfold Ej T5 Nt
 simp only[Ae,Ai,Ac,Cw,Ag]
 cases inR n 0 4294967295 with
 |false=>rfl
 |true=>simp only[Bool.not_true,Am];rw[Rv _ _ zq3,Ag];rfl
theorem A29 (c:Al) (h:Av c≤67000000):
  ∃(c':Al) (f:Au) (z:Int),Ajd c=some (c',f,(z,()))∧V_s_Ack c=some (c',f,(z,()))∧Av c'=Av c∧Aq f≤Av c+36∧(z=0→ChS c 8 (Nt c.2.2.1) c' f 0):=by
 have hc:=h
 have hl:=Ar5 c.2.2.1
 simp only[Av]at hc
 unfold Ajd Apx V_s_Ack T_s_Ack
 simp only[Ae,Ai,Ac]
 rw[Ki c zq0,Md c zq0,Ma c zq6 zq7,Mb c]
 simp only[Ag]
 cases ho:Bo c with
 |false=>exact⟨c,Fe,6,rfl,rfl,rfl,by simp[Aq,Fe],fun h=>by cases h⟩
 |true=>
  simp only[Bool.not_true,Am]
  cases hx:(c.1 != (1:Int))with
  |true=>exact⟨c,Fe,6,rfl,rfl,rfl,by simp[Aq,Fe],fun h=>by cases h⟩
  |false=>
   simp only[Am]
   rw[Akw,Aa2,Ag,Ag]
   obtain⟨c',f,z,h1,h2,h3⟩:=Ek c 8 (Nt c.2.2.1) zq0
   rw[h1,h2,Ag]
   have h3':=h3
   obtain⟨e',q1,q2,q3,q4,q5⟩:=h3
   exact⟨c',f,z,rfl,rfl,q2,by omega,fun hz=>hz▸h3'⟩
end
end Go.Proofs.YtmhhajdeafijmaaGreat
