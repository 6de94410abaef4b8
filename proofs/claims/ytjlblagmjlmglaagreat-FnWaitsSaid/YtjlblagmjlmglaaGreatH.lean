/-
  That the program and the reference answer alike, in plain terms, and that the laws answer true.
-/
import Derived.Test.YtjlblagmjlmglaaGreatW
namespace Go.Proofs.YtjlblagmjlmglaaGreat
open Go.RowKit
set_option linter.unusedVariables false
set_option linter.unusedSimpArgs false
set_option maxHeartbeats 4000000
noncomputable section
theorem Dz {α:Type} {l:List α} {i:Nat} {x:α} (h:l[i]? =some x):idx l (i:Int)=some x:=(A4p l i).trans h
theorem Zw {i n:Nat} (h:i<n):decide ((i:Int)<(n:Int))=true:=by simpa using h
theorem Zx (n:Nat):decide ((n:Int)<(n:Int))=false:=by simp
theorem Ao {p:Prop} [Decidable p] (h:p):decide p=true:=by simpa using h
theorem Bb {p:Prop} [Decidable p] (h: ¬p):decide p=false:=by simpa using h
theorem Co {ρ:Type} {b:Bool} {x y:Option ρ} (h:b=false):br b x y=y:=by subst h;rfl
theorem Ec {ρ:Type} {b:Bool} {x y:Option ρ} (h:b=true):br b x y=x:=by subst h;rfl
def D0 (d:Bp):Nat:=d.2.1.length
def Bm (d:YEp):Nat:=d.2.1.length+d.2.2.2.2.1.length
def De (d:Ae):Nat:=d.2.2.2.1.length+d.2.2.2.2.1.length+d.2.2.2.2.2.2.2.1.length+d.2.2.2.2.2.2.2.2.1.length
def Ar (d:Aa):Nat:=d.2.2.1.length+d.2.2.2.1.length+d.2.2.2.2.2.1.length+d.2.2.2.2.2.2.1.length+d.2.2.2.2.2.2.2.2.2.1.length+d.2.2.2.2.2.2.2.2.2.2.1.length
def A0 (d:Af):Nat:=d.2.1.length+d.2.2.2.1.length+d.2.2.2.2.2.2.1.length+d.2.2.2.2.2.2.2.2.1.length+d.2.2.2.2.2.2.2.2.2.2.2.1.length+d.2.2.2.2.2.2.2.2.2.2.2.2.2.2.1.length
def An (d:Ab):Nat:=d.2.1.length+d.2.2.2.2.2.1.length+d.2.2.2.2.2.2.2.2.1.length+d.2.2.2.2.2.2.2.2.2.1.length+d.2.2.2.2.2.2.2.2.2.2.2.1.length+d.2.2.2.2.2.2.2.2.2.2.2.2.1.length+d.2.2.2.2.2.2.2.2.2.2.2.2.2.2.2.1.length+d.2.2.2.2.2.2.2.2.2.2.2.2.2.2.2.2.1.length+d.2.2.2.2.2.2.2.2.2.2.2.2.2.2.2.2.2.2.1.length+d.2.2.2.2.2.2.2.2.2.2.2.2.2.2.2.2.2.2.2.2.1.length+d.2.2.2.2.2.2.2.2.2.2.2.2.2.2.2.2.2.2.2.2.2.2.2.1.length+d.2.2.2.2.2.2.2.2.2.2.2.2.2.2.2.2.2.2.2.2.2.2.2.2.2.1.length+d.2.2.2.2.2.2.2.2.2.2.2.2.2.2.2.2.2.2.2.2.2.2.2.2.2.2.2.2.1.length+d.2.2.2.2.2.2.2.2.2.2.2.2.2.2.2.2.2.2.2.2.2.2.2.2.2.2.2.2.2.2.2.1.length
theorem zq0 {p:Prop} (h:p:=by omega):p:=h
theorem zq1 {p:Prop} (h:p:=by simp;omega):p:=h
theorem zq2 {p:Prop} (h:p:=by dsimp only;omega):p:=h
theorem zq3 {p:Prop} (h:p:=by simp):p:=h
theorem zq4 {p:Prop} (h:p:=by decide):p:=h
theorem zq5 {p:Prop} (h:p:=by simp[inR];omega):p:=h
theorem zq6 {p:Prop} (h:p:=by simp[Ahm];omega):p:=h
theorem zq7 {p:Prop} (h:p:=by first|decide|omega|(dsimp only;omega)|((try simp only[Ar,Bm,D0,A0,An,List.length_nil,List.length_append,List.length_cons,List.length_set,List.length_take,List.length_drop,List.length_replicate,Nat.zero_add,Nat.add_zero]at*);omega)):p:=h
theorem zq8 {p:Prop} (h:p:=by((try simp only[Ar,Bm,D0,A0,An,List.length_nil,List.length_append,List.length_cons,List.length_set,List.length_take,List.length_drop,List.length_replicate,Nat.zero_add,Nat.add_zero]at*);omega)):p:=h
theorem zq9 {p:Prop} (h:p:=by(dsimp only;first|exact Gy|assumption)):p:=h
theorem Dd {p:Prop} (h:p:=by(dsimp only;first|exact Gy|assumption|(apply_assumption;assumption))):p:=h
theorem I0 {p:Prop} (h:p:=by(first|assumption|(apply_assumption;assumption))):p:=h
theorem Apz {p:Prop} (h:p:=by first|assumption|(apply_assumption;assumption)):p:=h
end
end Go.Proofs.YtjlblagmjlmglaaGreat
