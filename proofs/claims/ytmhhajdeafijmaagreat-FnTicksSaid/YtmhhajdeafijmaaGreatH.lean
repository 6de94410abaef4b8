/-
  That the program and the reference answer alike, in plain terms, and that the laws answer true.
-/
import Derived.Test.YtmhhajdeafijmaaGreatW
namespace Go.Proofs.YtmhhajdeafijmaaGreat
open Go.RowKit
set_option linter.unusedVariables false
set_option linter.unusedSimpArgs false
set_option maxHeartbeats 4000000
noncomputable section
theorem Dl {α:Type} {l:List α} {i:Nat} {x:α} (h:l[i]? =some x):idx l (i:Int)=some x:=(A39 l i).trans h
theorem M6 {i n:Nat} (h:i<n):decide ((i:Int)<(n:Int))=true:=by simpa using h
theorem M7 (n:Nat):decide ((n:Int)<(n:Int))=false:=by simp
theorem Am {p:Prop} [Decidable p] (h:p):decide p=true:=by simpa using h
theorem A8 {p:Prop} [Decidable p] (h: ¬p):decide p=false:=by simpa using h
theorem Cp {ρ:Type} {b:Bool} {x y:Option ρ} (h:b=false):br b x y=y:=by subst h;rfl
theorem Ej {ρ:Type} {b:Bool} {x y:Option ρ} (h:b=true):br b x y=x:=by subst h;rfl
def Dx (d:Bn):Nat:=d.2.1.length
def Bj (d:YEp):Nat:=d.2.1.length+d.2.2.2.2.1.length
def D0 (d:Ae):Nat:=d.2.2.2.1.length+d.2.2.2.2.1.length+d.2.2.2.2.2.2.2.1.length+d.2.2.2.2.2.2.2.2.1.length
def As (d:Aa):Nat:=d.2.2.1.length+d.2.2.2.1.length+d.2.2.2.2.2.1.length+d.2.2.2.2.2.2.1.length+d.2.2.2.2.2.2.2.2.2.1.length+d.2.2.2.2.2.2.2.2.2.2.1.length
def Ar (d:Af):Nat:=d.2.1.length+d.2.2.2.1.length+d.2.2.2.2.2.2.1.length+d.2.2.2.2.2.2.2.2.1.length+d.2.2.2.2.2.2.2.2.2.2.2.1.length+d.2.2.2.2.2.2.2.2.2.2.2.2.2.2.1.length
def Al (d:Ab):Nat:=d.2.1.length+d.2.2.2.2.2.1.length+d.2.2.2.2.2.2.2.2.1.length+d.2.2.2.2.2.2.2.2.2.1.length+d.2.2.2.2.2.2.2.2.2.2.2.1.length+d.2.2.2.2.2.2.2.2.2.2.2.2.1.length+d.2.2.2.2.2.2.2.2.2.2.2.2.2.2.2.1.length+d.2.2.2.2.2.2.2.2.2.2.2.2.2.2.2.2.1.length+d.2.2.2.2.2.2.2.2.2.2.2.2.2.2.2.2.2.2.1.length+d.2.2.2.2.2.2.2.2.2.2.2.2.2.2.2.2.2.2.2.2.1.length+d.2.2.2.2.2.2.2.2.2.2.2.2.2.2.2.2.2.2.2.2.2.2.2.1.length+d.2.2.2.2.2.2.2.2.2.2.2.2.2.2.2.2.2.2.2.2.2.2.2.2.2.1.length+d.2.2.2.2.2.2.2.2.2.2.2.2.2.2.2.2.2.2.2.2.2.2.2.2.2.2.2.2.1.length+d.2.2.2.2.2.2.2.2.2.2.2.2.2.2.2.2.2.2.2.2.2.2.2.2.2.2.2.2.2.2.2.1.length
theorem zq0 {p:Prop} (h:p:=by omega):p:=h
theorem zq1 {p:Prop} (h:p:=by simp;omega):p:=h
theorem zq2 {p:Prop} (h:p:=by dsimp only;omega):p:=h
theorem zq3 {p:Prop} (h:p:=by simp):p:=h
theorem zq4 {p:Prop} (h:p:=by decide):p:=h
theorem zq5 {p:Prop} (h:p:=by simp[inR];omega):p:=h
theorem zq6 {p:Prop} (h:p:=by simp[Ah6];omega):p:=h
theorem zq7 {p:Prop} (h:p:=by dsimp only[Gj];omega):p:=h
theorem zq8 {p:Prop} (h:p:=by dsimp only[Mc];omega):p:=h
theorem zq9 {p:Prop} (h:p:=by first|decide|omega|(dsimp only;omega)|((try simp only[As,Bj,Dx,Ar,Al,List.length_nil,List.length_append,List.length_cons,List.length_set,List.length_take,List.length_drop,List.length_replicate,Nat.zero_add,Nat.add_zero]at*);omega)):p:=h
theorem Cy {p:Prop} (h:p:=by((try simp only[As,Bj,Dx,Ar,Al,List.length_nil,List.length_append,List.length_cons,List.length_set,List.length_take,List.length_drop,List.length_replicate,Nat.zero_add,Nat.add_zero]at*);omega)):p:=h
theorem Ep {p:Prop} (h:p:=by(dsimp only;first|exact Gk|assumption|(apply_assumption;assumption))):p:=h
theorem Alt {p:Prop} (h:p:=by(first|assumption|(apply_assumption;assumption))):p:=h
theorem Ap9 {p:Prop} (h:p:=by first|assumption|(apply_assumption;assumption)):p:=h
end
end Go.Proofs.YtmhhajdeafijmaaGreat
