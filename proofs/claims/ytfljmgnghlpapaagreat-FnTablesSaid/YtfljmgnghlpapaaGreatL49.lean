/-
  That the program and the reference answer alike, in plain terms, and that the laws answer true.
-/
import Derived.Test.YtfljmgnghlpapaaGreatL43
namespace Go.Proofs.YtfljmgnghlpapaaGreat
open Go.RowKit
set_option linter.unusedVariables false
set_option linter.unusedSimpArgs false
set_option maxRecDepth 100000
set_option maxHeartbeats 8000000
noncomputable section
theorem Td (a:YBs):Iv a a=some (true,()):=by
 unfold Iv Afs
 simp only[Ab,decide_true]
theorem Ams (a:(List YI)×Unit) (h:a.1.length≤4294967296):Ro a a=some (true,()):=by
 have e:=Co (B:=Fo) a.1.length (fun i=>(a.1,a.1,(i:Int),())) (.inr ())
  (fun i hi=>by
   have hx:=List.getElem?_eq_getElem hi
   unfold Fo
   simp only[Ah,Ai,Ab,Db hi,A9,B7 hx,Ak,bne_self_eq_false,A1]
   rw[w64 zq0]
   rfl)
  (by unfold Fo;simp only[Ah,Ab,Dc,A1])
 unfold Ro Q9
 simp only[Ah,Ai,Ab,Ej,bne_self_eq_false,A1]
 rw[show As Fo (a.1,a.1,(0:Int),())=_ from e]
 rfl
theorem Aoj (a:Bs) (h:Dz a≤4294967296):U6 a a=some (true,()):=by
 unfold U6 Uw
 simp only[Ah,Ai,Ab,beq_self_eq_true,A9]
 rw[Ams _ (by simp only[Dz]at h;dsimp only;omega),Ak]
theorem Ae2 (a:YEp) (h:Dj a≤4294967296):P6 a a=some (true,()):=by
 unfold P6 Xl
 simp only[Ah,Ai,Ab,beq_self_eq_true,A9,Td,Ak]
 rw[Aoj _ (by simp only[Dj,Dz]at*;omega),Ak]
theorem Amt (a:Bl) (h:Bf a≤4294967296):Mg a a=some (true,()):=by
 unfold Mg Ra
 simp only[Ah,Ai,Ab,beq_self_eq_true,A9,Td,Ak]
 rw[Ae2 _ (by simp only[Bf,Dj]at*;omega)]
 simp only[Ak,A9]
 rw[Ae2 _ (by simp only[Bf,Dj]at*;omega)]
 simp only[Ak,A9]
end
end Go.Proofs.YtfljmgnghlpapaaGreat
