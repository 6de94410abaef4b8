/-
  That the program and the reference answer alike, in plain terms, and that the laws answer true.
-/
import Derived.Test.YtmhhajdeafijmaaGreatL56
namespace Go.Proofs.YtmhhajdeafijmaaGreat
open Go.RowKit
set_option linter.unusedVariables false
set_option linter.unusedSimpArgs false
set_option maxRecDepth 100000
set_option maxHeartbeats 8000000
noncomputable section
theorem Aqo (a:Bb) (h:As a≤4294967296):N9 a a=some (true,()):=by
 have hl:a.2.2.1.length≤As a:=by simp only[As];omega
 have e:=Cn (B:=Gt) a.2.2.1.length (fun i=>((i:Int),a.1,a.2.1,a.2.2.1,a.1,a.2.1,a.2.2.1,())) (.inr ())
  (fun i hi=>by
   have hx:=List.getElem?_eq_getElem hi
   unfold Gt
   simp only[Ae,Ai,Ac,Ep hi,A0,Ca hx,Ag,beq_self_eq_true,Bool.and_true,Bool.not_true,Am,Tp,bne_self_eq_false]
   rw[w64 zq0]
   rfl)
  (by unfold Gt;simp only[Ae,Ac,Er,Am])
 unfold N9 Uc
 simp only[Ae,Ai,Ac,G6,beq_self_eq_true,Bool.and_true,Bool.not_true,Am,bne_self_eq_false]
 rw[show Ay Gt ((0:Int),a.1,a.2.1,a.2.2.1,a.1,a.2.1,a.2.2.1,())=_ from e]
 rfl
theorem Atr (s:Bp) (h:Br s≤4294967296):Wj s s=some (true,()):=by
 have:=Ae9 s
 unfold Wj Wi
 simp only[Ae,Ai,Ac,beq_self_eq_true,A0,Tp,Ag]
 rw[show Qf _ _=_ from Atq (Ci s) zq0]
 simp only[Ag,A0]
 rw[show N9 _ _=_ from Aqo (A5 s) zq0]
 simp only[Ag,A0]
end
end Go.Proofs.YtmhhajdeafijmaaGreat
