/-
  That the program and the reference answer alike, in plain terms, and that the laws answer true.
-/
import Derived.Test.YtmhhajdeafijmaaGreatL16
namespace Go.Proofs.YtmhhajdeafijmaaGreat
open Go.RowKit
set_option linter.unusedVariables false
set_option linter.unusedSimpArgs false
set_option maxRecDepth 100000
set_option maxHeartbeats 4000000
noncomputable section
def Ru (k b:List YB):Ah:=((15:Int),(0:Int),(0:Int),[],[],(0:Int),(0:Int),b,k,(0:Int),(0:Int),(0:Int),())
theorem A7t (k b:List YB) (h1:k.length≤4294967296) (h2:b.length≤4294967296):Ag7 (k,()) (b,())=some (Ru k b):=by
 unfold Ag7 Apz Ru
 simp only[Al,Af]
 rw[C4 _ h1,An,C4 _ h2,An]
theorem A7u (k b:List YB) (h1:k.length≤4294967296) (h2:b.length≤4294967296):Afu (k,()) (b,())=some (Ru k b):=by
 unfold Afu Apo Ru
 simp only[Aq,Af,List.length_nil,Nat.zero_add,List.nil_append]
 rw[Ap h1,Bd,Ap h2,Bd]
def Abg (c:Ai) (f:Ab):Ah:=Ru c.2.2.2.1 (Do c.1 f)
theorem A9p (c:Ai) (f:Ab) (h1:c.2.2.2.1.length≤4294967296) (h2:Ar f≤536870912):Fs c f=some (Abg c f):=by
 have ht:=Adn c.1 f
 unfold Fs Ahl Abg
 simp only[Al,Af]
 rw[Pg _ _ h2,An,A7t _ _ h1 zq0,An]
theorem A7v (c:Ai) (f:Ab) (h1:c.2.2.2.1.length≤4294967296) (h2:Ar f≤536870912):Eu c f=some (Abg c f):=by
 have ht:=Adn c.1 f
 unfold Eu Ace Abg
 simp only[Al,Af]
 rw[Ph _ _ h2,An,A7u _ _ h1 zq0,An]
end
end Go.Proofs.YtmhhajdeafijmaaGreat
