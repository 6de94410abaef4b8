/-
  That the program and the reference answer alike, in plain terms, and that the laws answer true.
-/
import Derived.Test.YtmhhajdeafijmaaGreatL16
namespace Go.Proofs.YtmhhajdeafijmaaGreat
open Go.RowKit
set_option linter.unusedVariables false
set_option linter.unusedSimpArgs false
set_option maxRecDepth 100000
set_option maxHeartbeats 4000000
noncomputable section
def I2 (k b:List YB):A8:=((15:Int),(0:Int),(0:Int),[],[],(0:Int),(0:Int),b,k,(0:Int),(0:Int),(0:Int),())
theorem A92 (k b:List YB) (h1:k.length≤4294967296) (h2:b.length≤4294967296):Ank (k,()) (b,())=some (I2 k b):=by
 unfold Ank Ane I2
 simp only[Ai,Ac]
 rw[Cw _ h1,Ag,Cw _ h2,Ag]
theorem A93 (k b:List YB) (h1:k.length≤4294967296) (h2:b.length≤4294967296):Anl (k,()) (b,())=some (I2 k b):=by
 unfold Anl Awy I2
 simp only[Ak,Ac,List.length_nil,Nat.zero_add,List.nil_append]
 rw[Am h1,Ba,Am h2,Ba]
def Fi (c:Aj) (f:Aq):A8:=I2 c.2.2.2.1 (Cu c.1 f)
theorem G8 (c:Aj) (f:Aq) (h1:c.2.2.2.1.length≤4294967296) (h2:Ar f≤536870912):Gc c f=some (Fi c f):=by
 have ht:=Abr c.1 f
 unfold Gc Ae6 Fi
 simp only[Ai,Ac]
 rw[Nk _ _ h2,Ag,A92 _ _ h1 zq0,Ag]
theorem Hq (c:Aj) (f:Aq) (h1:c.2.2.2.1.length≤4294967296) (h2:Ar f≤536870912):Fj c f=some (Fi c f):=by
 have ht:=Abr c.1 f
 unfold Fj Al8 Fi
 simp only[Ai,Ac]
 rw[Rk _ _ h2,Ag,A93 _ _ h1 zq0,Ag]
end
end Go.Proofs.YtmhhajdeafijmaaGreat
