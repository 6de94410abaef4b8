/-
  That the program and the reference answer alike, in plain terms, and that the laws answer true.
-/
import Derived.Test.YthccfdmiejmbaaaDoorW
namespace Go.Proofs.YthccfdmiejmbaaaDoor
open Go.RowKit
set_option linter.unusedVariables false
set_option linter.unusedSimpArgs false
set_option maxHeartbeats 4000000
noncomputable section
theorem D2 {α:Type} {l:List α} {i:Nat} {x:α} (h:l[i]? =some x):idx l (i:Int)=some x:=(Aie l i).trans h
theorem K2 {i n:Nat} (h:i<n):decide ((i:Int)<(n:Int))=true:=by simpa using h
theorem K3 (n:Nat):decide ((n:Int)<(n:Int))=false:=by simp
theorem Al {p:Prop} [Decidable p] (h:p):decide p=true:=by simpa using h
theorem Df {p:Prop} [Decidable p] (h: ¬p):decide p=false:=by simpa using h
theorem Xs {ρ:Type} {b:Bool} {x y:Option ρ} (h:b=false):br b x y=y:=by subst h;rfl
theorem Acg {ρ:Type} {b:Bool} {x y:Option ρ} (h:b=true):br b x y=x:=by subst h;rfl
def Do (d:Ag):Nat:=d.2.2.2.2.1.length
def Bq (d:A5):Nat:=d.2.2.1.length+d.2.2.2.1.length+d.2.2.2.2.2.1.length+d.2.2.2.2.2.2.1.length+d.2.2.2.2.2.2.2.2.2.1.length+d.2.2.2.2.2.2.2.2.2.2.1.length
theorem zq0 {p:Prop} (h:p:=by simp;omega):p:=h
theorem zq1 {p:Prop} (h:p:=by omega):p:=h
theorem zq2 {p:Prop} (h:p:=by simp[Ea];omega):p:=h
theorem zq3 {p:Prop} (h:p:=by decide):p:=h
theorem zq4 {p:Prop} (h:p:=by first|decide|omega|(dsimp only;omega)|((try simp only[Bq,List.length_nil,List.length_append,List.length_cons,List.length_set,List.length_take,List.length_drop,List.length_replicate,Nat.zero_add,Nat.add_zero]at*);omega)):p:=h
theorem zq5 {p:Prop} (h:p:=by((try simp only[Bq,List.length_nil,List.length_append,List.length_cons,List.length_set,List.length_take,List.length_drop,List.length_replicate,Nat.zero_add,Nat.add_zero]at*);omega)):p:=h
theorem zq6 {p:Prop} (h:p:=by(dsimp only;first|exact Abk|assumption)):p:=h
end
end Go.Proofs.YthccfdmiejmbaaaDoor
