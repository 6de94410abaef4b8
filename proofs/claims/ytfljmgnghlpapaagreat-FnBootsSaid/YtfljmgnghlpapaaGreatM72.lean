/-
  That the program and the reference answer alike, in plain terms, and that the laws answer true.
-/
import Derived.Test.YtfljmgnghlpapaaGreatL59
namespace Go.Proofs.YtfljmgnghlpapaaGreat
open Go.RowKit
set_option linter.unusedVariables false
set_option linter.unusedSimpArgs false
set_option maxRecDepth 100000
set_option maxHeartbeats 3200000
noncomputable section
theorem A8y (c:Bt) (n:YI) (h:Bs c≤67000000) (ho:Km c=true):Tot (fun c'=>Bs c'≤Bs c∧Km c'=true∧c'.1=c.1∧X3 c'=X3 c∧c'.2.1=c.2.1) (X0 c n):=by
 have hc:=h
 simp only[Bs]at hc
 have same:Tot (fun c'=>Bs c'≤Bs c∧Km c'=true∧c'.1=c.1∧X3 c'=X3 c∧c'.2.1=c.2.1) (some c):=Ah ⟨Nat.le_refl _,ho,rfl,rfl,rfl⟩
 unfold X0 W8
 simp only[Ac,Ae,Ab]
 rw[At8 c zq0,A14 c (by dsimp only[Anw];omega) (by dsimp only[Ahy];omega),Bw]
 simp only[Ai]
 refine Ar (fun _=>?_) (fun _=>same)
 refine Ar (fun _=>?_) (fun _=>same)
 refine Ar (fun _=>?_) (fun _=>same)
 refine Ar (fun _=>?_) (fun _=>same)
 refine Ar (fun _=>?_) (fun _=>same)
 refine Ah ⟨by simp only[Bs,List.length_nil];omega,?_,rfl,rfl,rfl⟩
 have e1:At4 ((c.1,c.2.1,c.2.2.1,c.2.2.2.1,c.2.2.2.2.1,c.2.2.2.2.2.1,c.2.2.2.2.2.2.1,(0:Int),([]:List YB),(0:Int),(0:Int),([]:List YI),false,(0:Int),c.2.2.2.2.2.2.2.2.2.2.2.2.2.2.1,()):Bt)=true:=rfl
 unfold Km at ho ⊢
 rw[e1]
 simp only[Bool.and_eq_true]at ho ⊢
 exact⟨ho.1,ho.2.1,ho.2.2.1,rfl,ho.2.2.2.2⟩
theorem A6q (i:Int) (j:Int) (s:List YB) (h:s.length≤4294967296):Pa (i,()) (j,()) (s,())=some ((11:Int),i,j,([]:List YB),s,(0:Int),(0:Int),([]:List YB),([]:List YB),(0:Int),(0:Int),(0:Int),()):=by
 unfold Pa Aaa
 simp only[Ae,Ab]
 rw[Dv _ zq2,Ai]
end
end Go.Proofs.YtfljmgnghlpapaaGreat
