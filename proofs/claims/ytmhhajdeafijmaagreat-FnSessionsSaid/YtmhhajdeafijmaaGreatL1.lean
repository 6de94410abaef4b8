/-
  That the program and the reference answer alike, in plain terms, and that the laws answer true.
-/
import Derived.Test.YtmhhajdeafijmaaGreatH
namespace Go.Proofs.YtmhhajdeafijmaaGreat
open Go.RowKit
set_option linter.unusedVariables false
set_option linter.unusedSimpArgs false
set_option maxHeartbeats 4000000
noncomputable section
def inR (n lo hi:Int):Bool:=decide (lo≤n) && decide (n≤hi)
theorem Cj (n lo hi:YI):Be n lo hi=some (inR n.1 lo.1 hi.1,()):=by
 unfold Be Aed inR
 simp only[Ae,Ac,A9w]
 split<;>rename_i h<;>simp at h<;>simp[h]
 all_goals omega
theorem Cz (n lo hi:YI):Bm n lo hi=some (inR n.1 lo.1 hi.1,()):=by
 unfold Bm Amw inR
 simp only[Ae,Ac,A9w]
 split<;>rename_i h<;>simp at h<;>simp[h]
 all_goals omega
def Ez (a b:List YB):Bool:=decide (Ls a=Ls b)
theorem Xi (a b:YBs):Rc a b=some (Ez a.1 b.1,()):=rfl
theorem Oa (a b:YBs):D7 a b=some (Ez a.1 b.1,()):=rfl
end
end Go.Proofs.YtmhhajdeafijmaaGreat
