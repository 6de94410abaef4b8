/-
  That the program and the reference answer alike, in plain terms, and that the laws answer true.
-/
import Derived.Test.YtmhhajdeafijmaaGreatL43
namespace Go.Proofs.YtmhhajdeafijmaaGreat
open Go.RowKit
set_option linter.unusedVariables false
set_option linter.unusedSimpArgs false
set_option maxRecDepth 100000
set_option maxHeartbeats 8000000
noncomputable section
theorem Ti (a:YBs):Is a a=some (true,()):=by
 unfold Is Anp
 simp only[Ac,decide_true]
theorem Avo (a:(List YI)×Unit) (h:a.1.length≤4294967296):We a a=some (true,()):=by
 have e:=Cj (B:=Hh) a.1.length (fun i=>(a.1,a.1,(i:Int),())) (.inr ())
  (fun i hi=>by
   have hx:=List.getElem?_eq_getElem hi
   unfold Hh
   simp only[Af,Ah,Ac,En hi,Az,Ce hx,Ai,bne_self_eq_false,Ap]
   rw[w64 zq0]
   rfl)
  (by unfold Hh;simp only[Af,Ac,Eo,Ap])
 unfold We Wd
 simp only[Af,Ah,Ac,Hp,bne_self_eq_false,Ap]
 rw[show Ay Hh (a.1,a.1,(0:Int),())=_ from e]
 rfl
theorem Ax2 (a:Bv) (h:D7 a≤4294967296):Aam a a=some (true,()):=by
 unfold Aam Aal
 simp only[Af,Ah,Ac,beq_self_eq_true,Az]
 rw[Avo _ (by simp only[D7]at h;dsimp only;omega),Ai]
theorem Amn (a:YEp) (h:Bs a≤4294967296):Uu a a=some (true,()):=by
 unfold Uu Ae5
 simp only[Af,Ah,Ac,beq_self_eq_true,Az,Ti,Ai]
 rw[Ax2 _ (by simp only[Bs,D7]at*;omega),Ai]
theorem Avp (a:Aj) (h:Ax a≤4294967296):Pz a a=some (true,()):=by
 unfold Pz Wg
 simp only[Af,Ah,Ac,beq_self_eq_true,Az,Ti,Ai]
 rw[Amn _ (by simp only[Ax,Bs]at*;omega)]
 simp only[Ai,Az]
 rw[Amn _ (by simp only[Ax,Bs]at*;omega)]
 simp only[Ai,Az]
end
end Go.Proofs.YtmhhajdeafijmaaGreat
