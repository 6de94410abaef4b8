/-
  That the program and the reference answer alike, in plain terms, and that the laws answer true.
-/
import Derived.Test.YtmhhajdeafijmaaGreatL32
namespace Go.Proofs.YtmhhajdeafijmaaGreat
open Go.RowKit
set_option linter.unusedVariables false
set_option linter.unusedSimpArgs false
set_option maxRecDepth 100000
set_option maxHeartbeats 8000000
noncomputable section
theorem Avl {p a b:List YB} (k:M0 (p,())=true) (h1:a.length=12) (h2:b.length=12):(W1 p a b 0).length=32:=by
 have hroot:(M4 p a b).length=32:=by
  unfold M4
  have hp:inR (p.length:Int) 1 32=true:=k
  rw[if_pos ⟨hp,h1,h2⟩]
  have:=Bl.1 hp
  exact Va _ _ zq1 zq0
 have hfirst:(I7 (M4 p a b)).length=32:=by
  unfold I7
  rw[if_pos hroot]
  exact Zf zq4 zq0
 unfold W1
 rw[if_neg zq0]
 unfold Aon
 rw[if_pos zq0]
 exact hfirst
end
end Go.Proofs.YtmhhajdeafijmaaGreat
