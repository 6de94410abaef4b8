/-
  That the program and the reference answer alike, in plain terms, and that the laws answer true.
-/
import Derived.Test.YtfljmgnghlpapaaGreatL27
namespace Go.Proofs.YtfljmgnghlpapaaGreat
open Go.RowKit
set_option linter.unusedVariables false
set_option linter.unusedSimpArgs false
set_option maxRecDepth 100000
set_option maxHeartbeats 4000000
noncomputable section
theorem Ayt {l:List YB}:wfB l↔ ∀x∈l,0≤x.1∧x.1≤255:=by
 constructor
 ·intro h x hx
  obtain⟨i,hi⟩:=List.getElem?_of_mem hx
  exact h i x hi
 ·intro h i x hx
  exact h x (List.mem_of_getElem? hx)
theorem Fp:wfB []:=Ayt.2 (by simp)
theorem A0l (n:Int):0≤IntKind.u8.wrap n∧IntKind.u8.wrap n≤255:=by rw[IntKind.wrap_u8];omega
end
end Go.Proofs.YtfljmgnghlpapaaGreat
