/-
  That the program and the reference answer alike, in plain terms, and that the laws answer true.
-/
import Derived.Test.YtmhhajdeafijmaaGreatL17
namespace Go.Proofs.YtmhhajdeafijmaaGreat
open Go.RowKit
set_option linter.unusedVariables false
set_option linter.unusedSimpArgs false
set_option maxRecDepth 100000
set_option maxHeartbeats 4000000
noncomputable section
theorem Abh (c:Ac):A0 (C0 c)≤Ao c:=by simp only[A0,C0,Ao];omega
theorem Aqo (c:Ai):c.2.2.2.1.length≤A0 c:=by simp only[A0];omega
end
end Go.Proofs.YtmhhajdeafijmaaGreat
