/-
  That the program and the reference answer alike, in plain terms, and that the laws answer true.
-/
import Derived.Test.YtmhhajdeafijmaaGreatH
namespace Go.Proofs.YtmhhajdeafijmaaGreat
open Go.RowKit
set_option linter.unusedVariables false
set_option linter.unusedSimpArgs false
set_option maxHeartbeats 4000000
noncomputable section
def inR (n lo hi:Int):Bool:=decide (lo≤n) && decide (n≤hi)
theorem Ch (n lo hi:YI):A8 n lo hi=some (inR n.1 lo.1 hi.1,()):=by
 unfold A8 Agq inR
 simp only[Aj,Af,Bca]
 split<;>rename_i h<;>simp at h<;>simp[h]
 all_goals omega
theorem Cz (n lo hi:YI):Bi n lo hi=some (inR n.1 lo.1 hi.1,()):=by
 unfold Bi Apg inR
 simp only[Aj,Af,Bca]
 split<;>rename_i h<;>simp at h<;>simp[h]
 all_goals omega
def Dq (a b:List YB):Bool:=decide (Kd a=Kd b)
theorem Ah5 (a b:YBs):N4 a b=some (Dq a.1 b.1,()):=rfl
theorem Rs (a b:YBs):Dh a b=some (Dq a.1 b.1,()):=rfl
end
end Go.Proofs.YtmhhajdeafijmaaGreat
