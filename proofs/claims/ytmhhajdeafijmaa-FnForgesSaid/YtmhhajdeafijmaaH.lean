/-
  That the program and the reference answer alike, in plain terms, and that the laws answer true.
-/
import Derived.Test.YtmhhajdeafijmaaW
namespace Go.Proofs.Ytmhhajdeafijmaa
open Go.RowKit
set_option linter.unusedVariables false
set_option linter.unusedSimpArgs false
set_option maxHeartbeats 4000000
noncomputable section
theorem B8 {α:Type} {l:List α} {i:Nat} {x:α} (h:l[i]? =some x):idx l (i:Int)=some x:=(Afl l i).trans h
theorem Iq {i n:Nat} (h:i<n):decide ((i:Int)<(n:Int))=true:=by simpa using h
theorem Le (n:Nat):decide ((n:Int)<(n:Int))=false:=by simp
theorem Ah {p:Prop} [Decidable p] (h:p):decide p=true:=by simpa using h
theorem Aq {p:Prop} [Decidable p] (h: ¬p):decide p=false:=by simpa using h
theorem Ki {ρ:Type} {b:Bool} {x y:Option ρ} (h:b=false):br b x y=y:=by subst h;rfl
theorem Sp {ρ:Type} {b:Bool} {x y:Option ρ} (h:b=true):br b x y=x:=by subst h;rfl
def Bo (d:Bc):Nat:=d.2.2.1.length+d.2.2.2.1.length+d.2.2.2.2.2.1.length+d.2.2.2.2.2.2.1.length+d.2.2.2.2.2.2.2.2.2.1.length+d.2.2.2.2.2.2.2.2.2.2.1.length
theorem zq0 {p:Prop} (h:p:=by omega):p:=h
theorem zq1 {p:Prop} (h:p:=by simp):p:=h
theorem zq2 {p:Prop} (h:p:=by simp[cat,Ei];omega):p:=h
theorem zq3 {p:Prop} (h:p:=by simp;omega):p:=h
theorem zq4 {p:Prop} (h:p:=by decide):p:=h
theorem zq5 {p:Prop} (h:p:=by dsimp only;omega):p:=h
theorem zq6 {p:Prop} (h:p:=by simp[Po];omega):p:=h
end
end Go.Proofs.Ytmhhajdeafijmaa
