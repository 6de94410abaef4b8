/-
  That the program and the reference answer alike, in plain terms, and that the laws answer true.
-/
import Derived.Test.YtjlblagmjlmglaaGreatL16
namespace Go.Proofs.YtjlblagmjlmglaaGreat
open Go.RowKit
set_option linter.unusedVariables false
set_option linter.unusedSimpArgs false
set_option maxRecDepth 100000
set_option maxHeartbeats 4000000
noncomputable section
def Rw (k b:List YB):Ae:=((15:Int),(0:Int),(0:Int),[],[],(0:Int),(0:Int),b,k,(0:Int),(0:Int),(0:Int),())
theorem A7m (k b:List YB) (h1:k.length≤4294967296) (h2:b.length≤4294967296):Ahh (k,()) (b,())=some (Rw k b):=by
 unfold Ahh Apr Rw
 simp only[Aj,Ad]
 rw[Cg _ h1,Al,Cg _ h2,Al]
theorem A7n (k b:List YB) (h1:k.length≤4294967296) (h2:b.length≤4294967296):Ag3 (k,()) (b,())=some (Rw k b):=by
 unfold Ag3 Apb Rw
 simp only[Ap,Ad,List.length_nil,Nat.zero_add,List.nil_append]
 rw[Ao h1,A8,Ao h2,A8]
def Aa7 (c:Af) (f:Aa):Ae:=Rw c.2.2.2.1 (Dr c.1 f)
theorem A9m (c:Af) (f:Aa) (h1:c.2.2.2.1.length≤4294967296) (h2:Ar f≤536870912):En c f=some (Aa7 c f):=by
 have ht:=Adb c.1 f
 unfold En Agz Aa7
 simp only[Aj,Ad]
 rw[Pd _ _ h2,Al,A7m _ _ h1 zq0,Al]
theorem A7o (c:Af) (f:Aa) (h1:c.2.2.2.1.length≤4294967296) (h2:Ar f≤536870912):E4 c f=some (Aa7 c f):=by
 have ht:=Adb c.1 f
 unfold E4 Ab9 Aa7
 simp only[Aj,Ad]
 rw[Pe _ _ h2,Al,A7n _ _ h1 zq0,Al]
theorem Axo:Qi=Dm:=by
 funext t n
 unfold Qi Qe Dm Es
 simp only[Ai,Aj,Ad,B6,Bv,Av7,Li,Al]
theorem Ass (t:Bg) (n:YI): ∃b,Dm t n=some (b,()):=by
 unfold Dm Es
 simp only[Ai,Aj,Ad,Bv,Li,Al]
 cases Cu t<;>cases t.1<;>cases inR n.1 0 1000000<;>exact⟨_,rfl⟩
theorem Z9:M6=Ce:=by
 funext t n
 unfold M6 Ti Ce Gc
 simp only[Ai,Aj,Ad,Axo]
 obtain⟨b,hb⟩:=Ass t n
 rw[hb,Al,Al]
 cases b with
 |false=>rfl
 |true=>
  simp only[Bool.not_true,Aq]
  cases (t.2.2.2.1==(5:Int))with
  |true=>rfl
  |false=>
   simp only[Aq]
   by_cases h:IntKind.i64.wrap ((2:Int)*t.2.2.1)>8
   ·rw[Ao h,Ax];simp only[if_pos h]
   ·rw[Bb h,Aq];simp only[if_neg h]
end
end Go.Proofs.YtjlblagmjlmglaaGreat
