/-
  That the program and the reference answer alike, in plain terms, and that the laws answer true.
-/
import Derived.Test.YtmhhajdeafijmaaGreatL17
namespace Go.Proofs.YtmhhajdeafijmaaGreat
open Go.RowKit
set_option linter.unusedVariables false
set_option linter.unusedSimpArgs false
set_option maxRecDepth 100000
set_option maxHeartbeats 4000000
noncomputable section
theorem Av0 (c:Ab):Ar (Bm c)≤Al c:=by simp only[Ar,Bm,Al];omega
theorem Aqh (c:Af):c.2.2.2.1.length≤Ar c:=by simp only[Ar];omega
end
end Go.Proofs.YtmhhajdeafijmaaGreat
