/-
  That the program and the reference answer alike, in plain terms, and that the laws answer true.
-/
import Derived.Test.YtfljmgnghlpapaaGreatL59
namespace Go.Proofs.YtfljmgnghlpapaaGreat
open Go.RowKit
set_option linter.unusedVariables false
set_option linter.unusedSimpArgs false
set_option maxRecDepth 100000
set_option maxHeartbeats 3200000
noncomputable section
theorem Ate (c:Bl) (n:YI) (h:Bf c≤67000000) (ho:H0 c=true):Tot (fun c'=>Bf c'≤Bf c∧H0 c'=true∧c'.1=c.1∧Rs c'=Rs c∧c'.2.1=c.2.1) (Rn c n):=by
 have hc:=h
 simp only[Bf]at hc
 have same:Tot (fun c'=>Bf c'≤Bf c∧H0 c'=true∧c'.1=c.1∧Rs c'=Rs c∧c'.2.1=c.2.1) (some c):=Ae ⟨Nat.le_refl _,ho,rfl,rfl,rfl⟩
 unfold Rn Q5
 simp only[Ah,Ai,Ab]
 rw[Ah4 c zq0,Anx c (by dsimp only[Adm];omega) (by dsimp only[X4];omega),D0]
 simp only[Ak]
 refine An (fun _=>?_) (fun _=>same)
 refine An (fun _=>?_) (fun _=>same)
 refine An (fun _=>?_) (fun _=>same)
 refine An (fun _=>?_) (fun _=>same)
 refine An (fun _=>?_) (fun _=>same)
 refine Ae ⟨by simp only[Bf,List.length_nil];omega,?_,rfl,rfl,rfl⟩
 have e1:Ahx ((c.1,c.2.1,c.2.2.1,c.2.2.2.1,c.2.2.2.2.1,c.2.2.2.2.2.1,c.2.2.2.2.2.2.1,(0:Int),([]:List YB),(0:Int),(0:Int),([]:List YI),false,(0:Int),c.2.2.2.2.2.2.2.2.2.2.2.2.2.2.1,()):Bl)=true:=rfl
 unfold H0 at ho ⊢
 rw[e1]
 simp only[Bool.and_eq_true]at ho ⊢
 exact⟨ho.1,ho.2.1,ho.2.2.1,rfl,ho.2.2.2.2⟩
end
end Go.Proofs.YtfljmgnghlpapaaGreat
