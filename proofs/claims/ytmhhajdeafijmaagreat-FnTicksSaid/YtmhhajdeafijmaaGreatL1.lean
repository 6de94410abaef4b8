/-
  That the program and the reference answer alike, in plain terms, and that the laws answer true.
-/
import Derived.Test.YtmhhajdeafijmaaGreatH
namespace Go.Proofs.YtmhhajdeafijmaaGreat
open Go.RowKit
set_option linter.unusedVariables false
set_option linter.unusedSimpArgs false
set_option maxHeartbeats 4000000
noncomputable section
def inR (n lo hi:Int):Bool:=decide (lo≤n) && decide (n≤hi)
theorem Br (n lo hi:YI):A3 n lo hi=some (inR n.1 lo.1 hi.1,()):=by
 unfold A3 Agv inR
 simp only[Ag,Ad,Bbs]
 split<;>rename_i h<;>simp at h<;>simp[h]
 all_goals omega
theorem Cb (n lo hi:YI):Bb n lo hi=some (inR n.1 lo.1 hi.1,()):=by
 unfold Bb Apc inR
 simp only[Ag,Ad,Bbs]
 split<;>rename_i h<;>simp at h<;>simp[h]
 all_goals omega
def Dt (a b:List YB):Bool:=decide (Ko a=Ko b)
theorem Aao (a b:YBs):Ph a b=some (Dt a.1 b.1,()):=rfl
theorem M8 (a b:YBs):Do a b=some (Dt a.1 b.1,()):=rfl
end
end Go.Proofs.YtmhhajdeafijmaaGreat
