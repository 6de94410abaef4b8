/-
  That the program and the reference answer alike, in plain terms, and that the laws answer true.
-/
import Derived.Test.YtmhhajdeafijmaaH
namespace Go.Proofs.Ytmhhajdeafijmaa
open Go.RowKit
set_option linter.unusedVariables false
set_option linter.unusedSimpArgs false
set_option maxHeartbeats 4000000
noncomputable section
def inR (n lo hi:Int):Bool:=decide (lo≤n) && decide (n≤hi)
theorem Ej (n lo hi:YI):Bb n lo hi=some (inR n.1 lo.1 hi.1,()):=by
 unfold Bb Oo inR
 simp only[Ad,Ac,Akv]
 split<;>rename_i h<;>simp at h<;>simp[h]
 all_goals omega
theorem Lf (n lo hi:YI):Cb n lo hi=some (inR n.1 lo.1 hi.1,()):=by
 unfold Cb T2 inR
 simp only[Ad,Ac,Akv]
 split<;>rename_i h<;>simp at h<;>simp[h]
 all_goals omega
def Ir (a b:List YB):Bool:=decide (I6 a=I6 b)
theorem Adr (a b:YBs):Di a b=some (Ir a.1 b.1,()):=rfl
end
end Go.Proofs.Ytmhhajdeafijmaa
