/-
  That the program and the reference answer alike, in plain terms, and that the laws answer true.
-/
import Derived.Test.YtmhhajdeafijmaaGreatL58
namespace Go.Proofs.YtmhhajdeafijmaaGreat
open Go.RowKit
set_option linter.unusedVariables false
set_option linter.unusedSimpArgs false
set_option maxRecDepth 100000
set_option maxHeartbeats 8000000
noncomputable section
theorem Tot.both {α:Type} {P Q:α→Prop} {o:Option α} (h:Tot P o) (k:Tot Q o):Tot (fun a=>P a∧Q a) o:=by
 obtain⟨a,rfl,p⟩:=h
 obtain⟨c,e,q⟩:=k
 cases e
 exact⟨a,rfl,p,q⟩
theorem Axk {b:List YB} {a0:A7} (hc:Ck b a0):Tot (fun r=>(Bg r.1=true∧r.1.1=2)∧Ck b r.2) (Ka a0):=by
 unfold Ka Nn
 simp only[Ag,Ai,Ad,Ao]
 refine Aq (Dg _ hc zq4) (fun r1 ⟨⟨h1,_⟩,h1c⟩=>?_)
 refine Aq (Dg _ (Ap hc h1c) zq4) (fun r2 ⟨⟨h2,_⟩,h2c⟩=>?_)
 refine Aq (Ch _ (Ap hc h2c) zq4) (fun r3 ⟨h3,h3c⟩=>?_)
 refine Aq (Dg _ (Ap hc h3c) zq4) (fun r4 ⟨⟨h4,_⟩,h4c⟩=>?_)
 refine Ak ⟨⟨?_,rfl⟩,Ap hc h4c⟩
 have h1:r1.1.1.length=12:=h1
 have h2:r2.1.1.length=12:=h2
 have h4:r4.1.1.length=16:=h4
 dsimp only at h3
 have h3':inR r3.1.1 0 1000000=true:=A6.2 zq0
 unfold Bg
 simp[h1,h2,h4,h3',show inR 2 4 8=false by decide]
end
end Go.Proofs.YtmhhajdeafijmaaGreat
