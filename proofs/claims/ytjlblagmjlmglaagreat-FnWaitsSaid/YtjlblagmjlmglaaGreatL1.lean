/-
  That the program and the reference answer alike, in plain terms, and that the laws answer true.
-/
import Derived.Test.YtjlblagmjlmglaaGreatH
namespace Go.Proofs.YtjlblagmjlmglaaGreat
open Go.RowKit
set_option linter.unusedVariables false
set_option linter.unusedSimpArgs false
set_option maxHeartbeats 4000000
noncomputable section
def inR (n lo hi:Int):Bool:=decide (lo≤n) && decide (n≤hi)
theorem B6 (n lo hi:YI):A5 n lo hi=some (inR n.1 lo.1 hi.1,()):=by
 unfold A5 Age inR
 simp only[Ai,Ad,Bb9]
 split<;>rename_i h<;>simp at h<;>simp[h]
 all_goals omega
theorem Bv (n lo hi:YI):Bd n lo hi=some (inR n.1 lo.1 hi.1,()):=by
 unfold Bd Aoz inR
 simp only[Ai,Ad,Bb9]
 split<;>rename_i h<;>simp at h<;>simp[h]
 all_goals omega
def Dv (a b:List YB):Bool:=decide (Kj a=Kj b)
theorem Ahn (a b:YBs):Ow a b=some (Dv a.1 b.1,()):=rfl
theorem Ru (a b:YBs):Di a b=some (Dv a.1 b.1,()):=rfl
end
end Go.Proofs.YtjlblagmjlmglaaGreat
