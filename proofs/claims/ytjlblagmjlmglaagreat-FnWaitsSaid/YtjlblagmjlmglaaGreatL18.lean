/-
  That the program and the reference answer alike, in plain terms, and that the laws answer true.
-/
import Derived.Test.YtjlblagmjlmglaaGreatL17
namespace Go.Proofs.YtjlblagmjlmglaaGreat
open Go.RowKit
set_option linter.unusedVariables false
set_option linter.unusedSimpArgs false
set_option maxRecDepth 100000
set_option maxHeartbeats 4000000
noncomputable section
theorem Av8 (c:Ab):A0 (Cw c)≤An c:=by simp only[A0,Cw,An];omega
theorem Ap9 (c:Af):c.2.2.2.1.length≤A0 c:=by simp only[A0];omega
end
end Go.Proofs.YtjlblagmjlmglaaGreat
