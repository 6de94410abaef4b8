/-
  That the program and the reference answer alike, in plain terms, and that the laws answer true.
-/
import Derived.Test.YtmhhajdeafijmaaGreatL16
namespace Go.Proofs.YtmhhajdeafijmaaGreat
open Go.RowKit
set_option linter.unusedVariables false
set_option linter.unusedSimpArgs false
set_option maxRecDepth 100000
set_option maxHeartbeats 4000000
noncomputable section
def Se (k b:List YB):Ae:=((15:Int),(0:Int),(0:Int),[],[],(0:Int),(0:Int),b,k,(0:Int),(0:Int),(0:Int),())
theorem A61 (k b:List YB) (h1:k.length≤4294967296) (h2:b.length≤4294967296):Ahx (k,()) (b,())=some (Se k b):=by
 unfold Ahx Apw Se
 simp only[Ai,Ad]
 rw[Cd _ h1,Aj,Cd _ h2,Aj]
theorem A62 (k b:List YB) (h1:k.length≤4294967296) (h2:b.length≤4294967296):Ahp (k,()) (b,())=some (Se k b):=by
 unfold Ahp Apl Se
 simp only[Ao,Ad,List.length_nil,Nat.zero_add,List.nil_append]
 rw[Am h1,A5,Am h2,A5]
def Sf (c:Af) (f:Aa):Ae:=Se c.2.2.2.1 (Bs c.1 f)
theorem Aay (c:Af) (f:Aa) (h1:c.2.2.2.1.length≤4294967296) (h2:As f≤536870912):Dy c f=some (Sf c f):=by
 have ht:=Sd c.1 f
 unfold Dy Ahg Sf
 simp only[Ai,Ad]
 rw[Jx _ _ h2,Aj,A61 _ _ h1 zq0,Aj]
theorem A63 (c:Af) (f:Aa) (h1:c.2.2.2.1.length≤4294967296) (h2:As f≤536870912):E7 c f=some (Sf c f):=by
 have ht:=Sd c.1 f
 unfold E7 Ac1 Sf
 simp only[Ai,Ad]
 rw[Pw _ _ h2,Aj,A62 _ _ h1 zq0,Aj]
theorem Axe:Q1=Ew:=by
 funext t n
 unfold Q1 Qs Ew Hc
 simp only[Ag,Ai,Ad,Br,Cb,Avz,Td,Aj]
theorem Asp (t:A9) (n:YI): ∃b,Ew t n=some (b,()):=by
 unfold Ew Hc
 simp only[Ag,Ai,Ad,Cb,Td,Aj]
 cases Bp t<;>cases t.1<;>cases inR n.1 0 1000000<;>exact⟨_,rfl⟩
theorem Al7:Nr=D9:=by
 funext t n
 unfold Nr T1 D9 J5
 simp only[Ag,Ai,Ad,Axe]
 obtain⟨b,hb⟩:=Asp t n
 rw[hb,Aj,Aj]
 cases b with
 |false=>rfl
 |true=>
  simp only[Bool.not_true,An]
  cases (t.2.2.2.1==(5:Int))with
  |true=>rfl
  |false=>
   simp only[An]
   by_cases h:IntKind.i64.wrap ((2:Int)*t.2.2.1)>8
   ·rw[Am h,Aw];simp only[if_pos h]
   ·rw[A8 h,An];simp only[if_neg h]
end
end Go.Proofs.YtmhhajdeafijmaaGreat
