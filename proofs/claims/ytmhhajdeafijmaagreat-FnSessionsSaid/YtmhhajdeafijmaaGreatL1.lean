/-
  That the program and the reference answer alike, in plain terms, and that the laws answer true.
-/
import Derived.Test.YtmhhajdeafijmaaGreatH
namespace Go.Proofs.YtmhhajdeafijmaaGreat
open Go.RowKit
set_option linter.unusedVariables false
set_option linter.unusedSimpArgs false
set_option maxHeartbeats 4000000
noncomputable section
def inR (n lo hi:Int):Bool:=decide (lo≤n) && decide (n≤hi)
theorem Ch (n lo hi:YI):Be n lo hi=some (inR n.1 lo.1 hi.1,()):=by
 unfold Be Adf inR
 simp only[Ae,Ac,A7q]
 split<;>rename_i h<;>simp at h<;>simp[h]
 all_goals omega
theorem Cw (n lo hi:YI):By n lo hi=some (inR n.1 lo.1 hi.1,()):=by
 unfold By Alc inR
 simp only[Ae,Ac,A7q]
 split<;>rename_i h<;>simp at h<;>simp[h]
 all_goals omega
def Ew (a b:List YB):Bool:=decide (Nb a=Nb b)
theorem Wv (a b:YBs):V_s_l1Same a b=some (Ew a.1 b.1,()):=rfl
theorem Ns (a b:YBs):Dx a b=some (Ew a.1 b.1,()):=rfl
end
end Go.Proofs.YtmhhajdeafijmaaGreat
