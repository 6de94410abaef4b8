/-
  That the program and the reference answer alike, in plain terms, and that the laws answer true.
-/
import Derived.Test.YtmhhajdeafijmaaGreatL54
namespace Go.Proofs.YtmhhajdeafijmaaGreat
open Go.RowKit
set_option linter.unusedVariables false
set_option linter.unusedSimpArgs false
set_option maxRecDepth 100000
set_option maxHeartbeats 8000000
noncomputable section
theorem A7k (l:(List YI)×Unit) (hl:l.1.length≤1000):Tot (fun r=>Fq r=true) (S6 l):=by
 unfold S6 Abh
 simp only[Ag,Ai,Ad,Ao]
 rw[Aaw,Aax]
 simp only[Aj]
 refine Aq (Q:=fun o:Int×(List YI)×Int×(List YI)×Unit=>Fq (o.2.2.1,o.2.2.2.1,())=true) ?_ (fun o ho=>Ak ho)
 refine Mf (fun i d=>d.1=l.1∧d.2.1=(i:Int)∧d.2.2.2.2.2.1.length=32∧Fq (d.2.2.2.2.1,d.2.2.2.2.2.1,())=true) _ l.1.length ?_ ⟨rfl,rfl,by simp[Tc],Al8⟩
 rintro i ⟨m,k,a1,a2,a3,a4,⟨⟩⟩ hi ⟨g1,g2,g3,g4⟩
 dsimp only at g1 g2 g3 g4
 subst g1 g2
 unfold Mp
 simp only[Ag,Ai,Ad,Ao]
 refine Ax (fun h=>?_) (fun h=>Ak (.inr ⟨_,rfl,g4⟩))
 have h:=of_decide_eq_true h
 refine Aq (Afk (P:=fun _=>True) zq0 h (fun _ _=>trivial)) (fun e _=>?_)
 have hn:=Ad3 (a3,a4,()) e.1
 simp only[Dx]at hn
 have e0:IntKind.i64.wrap ((i:Int)+1)=((i+1:Nat):Int):=by rw[w64 zq0];omega
 rw[Aqi (a3,a4,()) e zq2]
 cases hm:Fu (a3,a4,()) e.1 with
 |false=>exact Ak (.inl ⟨_,rfl,by omega,rfl,e0,g3,g4⟩)
 |true=>exact Ak (.inl ⟨_,rfl,by omega,rfl,e0,by show(Gt (a3,a4,()) e.1).2.1.length=32;omega,Av2 hm⟩)
theorem A43 {b:List YB} {a0:A7} (hc:Ck b a0):Tot (fun r=>Fq r.1=true∧Ck b r.2) (Pm a0):=by
 unfold Pm W5
 simp only[Ag,Ai,Ad,Ao]
 refine Aq (Asq _ hc zq4) (fun r1 ⟨h1,h1c⟩=>?_)
 exact Aq (A7k _ h1) (fun r2 h2=>Ak ⟨h2,Ap hc h1c⟩)
theorem A28 {n:Int} {k:List YB} {s t:Int} {w:List YI} (h1:0≤n∧n≤4294967295) (h2:k.length=32) (h3:0≤s∧s≤281474976710656) (h4:Fq (t,w,())=true):Dm (n,k,s,t,w,())=true:=by
 unfold Dm
 rw[h4,A6.2 h1,A6.2 h3]
 simp[h2]
theorem Bay (n:YI):Tot (fun r=>Gc r=true) (Zx n):=by
 unfold Zx Afz
 simp only[Ag,Ai,Ad,Ao]
 rw[Cb,Aj]
 dsimp only
 cases h:inR n.1 0 255 with
 |false=>exact Ak rfl
 |true=>
  have:=A6.1 h
  refine Ak ?_
  unfold Gc
  rw[w64 (n:=167772160+n.1) zq0,w64 (n:=7000+n.1) zq0]
  simp only[Bool.and_eq_true,A6]
  omega
end
end Go.Proofs.YtmhhajdeafijmaaGreat
