/-
  That the program and the reference answer alike, in plain terms, and that the laws answer true.
-/
import Derived.Test.YtmhhajdeafijmaaGreatL32
namespace Go.Proofs.YtmhhajdeafijmaaGreat
open Go.RowKit
set_option linter.unusedVariables false
set_option linter.unusedSimpArgs false
set_option maxRecDepth 100000
set_option maxHeartbeats 8000000
noncomputable section
theorem Axp {p a b:List YB} (k:Nl (p,())=true) (h1:a.length=12) (h2:b.length=12):(Xo p a b 0).length=32:=by
 have hroot:(Nm p a b).length=32:=by
  unfold Nm
  have hp:inR (p.length:Int) 1 32=true:=k
  rw[if_pos ⟨hp,h1,h2⟩]
  have:=Bp.1 hp
  exact Vy _ _ zq1 zq0
 have hfirst:(Jg (Nm p a b)).length=32:=by
  unfold Jg
  rw[if_pos hroot]
  exact Z3 zq4 zq0
 unfold Xo
 rw[if_neg zq0]
 unfold Aqk
 rw[if_pos zq0]
 exact hfirst
end
end Go.Proofs.YtmhhajdeafijmaaGreat
