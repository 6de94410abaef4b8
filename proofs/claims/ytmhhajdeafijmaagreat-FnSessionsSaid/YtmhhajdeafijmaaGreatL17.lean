/-
  That the program and the reference answer alike, in plain terms, and that the laws answer true.
-/
import Derived.Test.YtmhhajdeafijmaaGreatL16
namespace Go.Proofs.YtmhhajdeafijmaaGreat
open Go.RowKit
set_option linter.unusedVariables false
set_option linter.unusedSimpArgs false
set_option maxRecDepth 100000
set_option maxHeartbeats 4000000
noncomputable section
def It (k b:List YB):B8:=((15:Int),(0:Int),(0:Int),[],[],(0:Int),(0:Int),b,k,(0:Int),(0:Int),(0:Int),())
theorem A7w (k b:List YB) (h1:k.length≤4294967296) (h2:b.length≤4294967296):Als (k,()) (b,())=some (It k b):=by
 unfold Als Alr It
 simp only[Ai,Ac]
 rw[Cu _ h1,Ag,Cu _ h2,Ag]
theorem A7x (k b:List YB) (h1:k.length≤4294967296) (h2:b.length≤4294967296):V_s_Made (k,()) (b,())=some (It k b):=by
 unfold V_s_Made T_s_Made It
 simp only[Aj,Ac,List.length_nil,Nat.zero_add,List.nil_append]
 rw[Ak h1,A8,Ak h2,A8]
def Fh (c:Al) (f:Au):B8:=It c.2.2.2.1 (Cr c.1 f)
theorem G4 (c:Al) (f:Au) (h1:c.2.2.2.1.length≤4294967296) (h2:Aq f≤536870912):Ga c f=some (Fh c f):=by
 have ht:=Aa1 c.1 f
 unfold Ga Ad8 Fh
 simp only[Ai,Ac]
 rw[Mz _ _ h2,Ag,A7w _ _ h1 zq0,Ag]
theorem Hl (c:Al) (f:Au) (h1:c.2.2.2.1.length≤4294967296) (h2:Aq f≤536870912):V_s_l19Made c f=some (Fh c f):=by
 have ht:=Aa1 c.1 f
 unfold V_s_l19Made T_s_l19Made Fh
 simp only[Ai,Ac]
 rw[Qz _ _ h2,Ag,A7x _ _ h1 zq0,Ag]
end
end Go.Proofs.YtmhhajdeafijmaaGreat
