/-
  That the program and the reference answer alike, in plain terms, and that the laws answer true.
-/
import Derived.Test.YtmhhajdeafijmaaGreatL16
namespace Go.Proofs.YtmhhajdeafijmaaGreat
open Go.RowKit
set_option linter.unusedVariables false
set_option linter.unusedSimpArgs false
set_option maxRecDepth 100000
set_option maxHeartbeats 4000000
noncomputable section
def J4 (k b:List YB):A2:=((15:Int),(0:Int),(0:Int),[],[],(0:Int),(0:Int),b,k,(0:Int),(0:Int),(0:Int),())
theorem A93 (k b:List YB) (h1:k.length≤4294967296) (h2:b.length≤4294967296):Ang (k,()) (b,())=some (J4 k b):=by
 unfold Ang Anf J4
 simp only[Ah,Ac]
 rw[Dc _ h1,Ai,Dc _ h2,Ai]
theorem A94 (k b:List YB) (h1:k.length≤4294967296) (h2:b.length≤4294967296):Ano (k,()) (b,())=some (J4 k b):=by
 unfold Ano Ann J4
 simp only[An,Ac,List.length_nil,Nat.zero_add,List.nil_append]
 rw[Al h1,A5,Al h2,A5]
def G4 (c:Aj) (f:Au):A2:=J4 c.2.2.2.1 (Cw c.1 f)
theorem Iy (c:Aj) (f:Au) (h1:c.2.2.2.1.length≤4294967296) (h2:Aq f≤536870912):Fb c f=some (G4 c f):=by
 have ht:=Ami c.1 f
 unfold Fb Aew G4
 simp only[Ah,Ac]
 rw[Qo _ _ h2,Ai,A93 _ _ h1 zq0,Ai]
theorem Hb (c:Aj) (f:Au) (h1:c.2.2.2.1.length≤4294967296) (h2:Aq f≤536870912):E5 c f=some (G4 c f):=by
 have ht:=Ami c.1 f
 unfold E5 Aak G4
 simp only[Ah,Ac]
 rw[Qp _ _ h2,Ai,A94 _ _ h1 zq0,Ai]
end
end Go.Proofs.YtmhhajdeafijmaaGreat
