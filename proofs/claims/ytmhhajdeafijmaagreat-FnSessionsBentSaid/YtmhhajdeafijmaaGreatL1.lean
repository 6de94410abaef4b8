/-
  That the program and the reference answer alike, in plain terms, and that the laws answer true.
-/
import Derived.Test.YtmhhajdeafijmaaGreatH
namespace Go.Proofs.YtmhhajdeafijmaaGreat
open Go.RowKit
set_option linter.unusedVariables false
set_option linter.unusedSimpArgs false
set_option maxHeartbeats 4000000
noncomputable section
def inR (n lo hi:Int):Bool:=decide (lo≤n) && decide (n≤hi)
theorem C9 (n lo hi:YI):Bn n lo hi=some (inR n.1 lo.1 hi.1,()):=by
 unfold Bn Ad0 inR
 simp only[Af,Ac,A9w]
 split<;>rename_i h<;>simp at h<;>simp[h]
 all_goals omega
theorem C4 (n lo hi:YI):Bk n lo hi=some (inR n.1 lo.1 hi.1,()):=by
 unfold Bk Amv inR
 simp only[Af,Ac,A9w]
 split<;>rename_i h<;>simp at h<;>simp[h]
 all_goals omega
def E4 (a b:List YB):Bool:=decide (Ku a=Ku b)
theorem Wz (a b:YBs):Pj a b=some (E4 a.1 b.1,()):=rfl
theorem Kr (a b:YBs):Cv a b=some (E4 a.1 b.1,()):=rfl
end
end Go.Proofs.YtmhhajdeafijmaaGreat
