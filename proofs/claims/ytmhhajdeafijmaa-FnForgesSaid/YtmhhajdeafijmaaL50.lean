/-
  That the program and the reference answer alike, in plain terms, and that the laws answer true.
-/
import Derived.Test.YtmhhajdeafijmaaL40
namespace Go.Proofs.Ytmhhajdeafijmaa
open Go.RowKit
set_option linter.unusedVariables false
set_option linter.unusedSimpArgs false
set_option maxRecDepth 100000
set_option maxHeartbeats 8000000
noncomputable section
def Ln (o:YOp):Bool:=inR o.1 1 10 && (decide ((o.2.2.2.1.length:Int)≤200) && (inR o.2.1 0 200 && inR o.2.2.1 0 200))
theorem Ab3 (o:YOp):Pc o=some (Ln o,()):=by
 unfold Pc Pb Ln
 simp only[Ad,Af,Ac,Ej,Ae]
 cases inR o.1 1 10<;>cases decide ((o.2.2.2.1.length:Int)≤200)<;>cases inR o.2.1 0 200<;>rfl
end
end Go.Proofs.Ytmhhajdeafijmaa
