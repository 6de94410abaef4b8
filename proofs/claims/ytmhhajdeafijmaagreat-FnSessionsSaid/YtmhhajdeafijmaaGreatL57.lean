/-
  That the program and the reference answer alike, in plain terms, and that the laws answer true.
-/
import Derived.Test.YtmhhajdeafijmaaGreatL56
namespace Go.Proofs.YtmhhajdeafijmaaGreat
open Go.RowKit
set_option linter.unusedVariables false
set_option linter.unusedSimpArgs false
set_option maxRecDepth 100000
set_option maxHeartbeats 8000000
noncomputable section
theorem Ask (a:A9) (h:Au a≤4294967296):Ot a a=some (true,()):=by
 have hl:a.2.2.1.length≤Au a:=by simp only[Au];omega
 have e:=Cp (B:=Gu) a.2.2.1.length (fun i=>((i:Int),a.1,a.2.1,a.2.2.1,a.1,a.2.1,a.2.2.1,())) (.inr ())
  (fun i hi=>by
   have hx:=List.getElem?_eq_getElem hi
   unfold Gu
   simp only[Ae,Ai,Ac,Et hi,A0,Cb hx,Ag,beq_self_eq_true,Bool.and_true,Bool.not_true,An,Ue,bne_self_eq_false]
   rw[w64 zq0]
   rfl)
  (by unfold Gu;simp only[Ae,Ac,Eu,An])
 unfold Ot Uw
 simp only[Ae,Ai,Ac,Hb,beq_self_eq_true,Bool.and_true,Bool.not_true,An,bne_self_eq_false]
 rw[show Ay Gu ((0:Int),a.1,a.2.1,a.2.2.1,a.1,a.2.1,a.2.2.1,())=_ from e]
 rfl
theorem Avq (s:Bd) (h:Bw s≤4294967296):Xg s s=some (true,()):=by
 have:=Af9 s
 unfold Xg W2
 simp only[Ae,Ai,Ac,beq_self_eq_true,A0,Ue,Ag]
 rw[show Rb _ _=_ from Avp (Ck s) zq0]
 simp only[Ag,A0]
 rw[show Ot _ _=_ from Ask (A5 s) zq0]
 simp only[Ag,A0]
end
end Go.Proofs.YtmhhajdeafijmaaGreat
