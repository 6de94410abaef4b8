/-
  That the program and the reference answer alike, in plain terms, and that the laws answer true.
-/
import Derived.Test.YtmhhajdeafijmaaH
namespace Go.Proofs.Ytmhhajdeafijmaa
open Go.RowKit
set_option linter.unusedVariables false
set_option linter.unusedSimpArgs false
set_option maxHeartbeats 4000000
noncomputable section
def inR (n lo hi:Int):Bool:=decide (lo≤n) && decide (n≤hi)
theorem Hy (n lo hi:YI):Ct n lo hi=some (inR n.1 lo.1 hi.1,()):=by
 unfold Ct Oz inR
 simp only[Ad,Ac,Ak5]
 split<;>rename_i h<;>simp at h<;>simp[h]
 all_goals omega
theorem J2 (n lo hi:YI):B7 n lo hi=some (inR n.1 lo.1 hi.1,()):=by
 unfold B7 T4 inR
 simp only[Ad,Ac,Ak5]
 split<;>rename_i h<;>simp at h<;>simp[h]
 all_goals omega
end
end Go.Proofs.Ytmhhajdeafijmaa
