/-
  That the program and the reference answer alike, in plain terms, and that the laws answer true.
-/
import Derived.Test.YtnbbbaplphcebaaGreatW
namespace Go.Proofs.YtnbbbaplphcebaaGreat
open Go.RowKit
set_option linter.unusedVariables false
set_option linter.unusedSimpArgs false
set_option maxHeartbeats 4000000
noncomputable section
theorem B9 {α:Type} {l:List α} {i:Nat} {x:α} (h:l[i]? =some x):idx l (i:Int)=some x:=(Bi2 l i).trans h
theorem Dm {i n:Nat} (h:i<n):decide ((i:Int)<(n:Int))=true:=by simpa using h
theorem Dn (n:Nat):decide ((n:Int)<(n:Int))=false:=by simp
theorem Al {p:Prop} [Decidable p] (h:p):decide p=true:=by simpa using h
theorem Bp {p:Prop} [Decidable p] (h: ¬p):decide p=false:=by simpa using h
theorem Di {ρ:Type} {b:Bool} {x y:Option ρ} (h:b=false):br b x y=y:=by subst h;rfl
theorem E0 {ρ:Type} {b:Bool} {x y:Option ρ} (h:b=true):br b x y=x:=by subst h;rfl
def Hr (d:Dk):Nat:=d.2.1.length
def Ga (d:A8):Nat:=d.2.2.1.length
def C7 (d:YEp):Nat:=d.2.1.length+d.2.2.2.2.1.length
def Bd (d:Bn):Nat:=d.2.2.1.length+Bu Ga d.2.2.1
def Gb (d:Ax):Nat:=d.2.2.2.1.length+d.2.2.2.2.1.length+d.2.2.2.2.2.2.2.1.length+d.2.2.2.2.2.2.2.2.1.length
def Aq (d:Ar):Nat:=d.2.2.1.length+d.2.2.2.1.length+d.2.2.2.2.2.1.length+d.2.2.2.2.2.2.1.length+d.2.2.2.2.2.2.2.2.2.1.length+d.2.2.2.2.2.2.2.2.2.2.1.length
def Ig (d:Bc):Nat:=d.2.2.2.2.1.length+d.2.2.2.2.2.1.length+d.2.2.2.2.2.2.2.1.length+d.2.2.2.2.2.2.2.2.1.length+d.2.2.2.2.2.2.2.2.2.2.2.1.length+d.2.2.2.2.2.2.2.2.2.2.2.2.1.length
def A7 (d:Ap):Nat:=d.2.1.length+d.2.2.2.1.length+d.2.2.2.2.2.2.1.length+d.2.2.2.2.2.2.2.2.1.length+d.2.2.2.2.2.2.2.2.2.2.2.1.length+d.2.2.2.2.2.2.2.2.2.2.2.2.2.2.1.length
def A5 (d:Ak):Nat:=d.2.1.length+d.2.2.1.length+d.2.2.2.2.1.length+d.2.2.2.2.2.2.1.length+d.2.2.2.2.2.2.2.2.2.1.length+d.2.2.2.2.2.2.2.2.2.2.2.1.length+d.2.2.2.2.2.2.2.2.2.2.2.2.2.2.1.length+d.2.2.2.2.2.2.2.2.2.2.2.2.2.2.2.2.2.1.length+d.2.2.2.2.2.2.2.2.2.2.2.2.2.2.2.2.2.2.2.2.1.length+Bu Ga d.2.2.2.2.2.2.2.2.2.2.2.2.2.2.2.2.2.2.2.2.1
def Co (d:Cj):Nat:=d.2.1.length+Bu A5 d.2.1
def E6 (d:YBs):Nat:=d.1.length
def Br (d:Bs):Nat:=d.1.length+Bu E6 d.1+d.2.1.length+d.2.2.1.length+d.2.2.2.2.2.1.length+Bu A5 d.2.2.2.2.2.1+d.2.2.2.2.2.2.1.length
theorem zq0 {p:Prop} (h:p:=by omega):p:=h
theorem zq1 {p:Prop} (h:p:=by simp;omega):p:=h
theorem zq2 {p:Prop} (h:p:=by dsimp only;omega):p:=h
theorem zq3 {p:Prop} (h:p:=by simp):p:=h
theorem zq4 {p:Prop} (h:p:=by simp[Gd];omega):p:=h
theorem zq5 {p:Prop} (h:p:=by simp[cat];omega):p:=h
theorem zq6 {p:Prop} (h:p:=by simp[cat,Gd];omega):p:=h
theorem zq7 {p:Prop} (h:p:=by decide):p:=h
theorem zq8 {p:Prop} (h:p:=by simp[inR];omega):p:=h
theorem zq9 {p:Prop} (h:p:=by simp[Aqe];omega):p:=h
theorem A51 {p:Prop} (h:p:=by dsimp only[Lq];omega):p:=h
theorem A52 {p:Prop} (h:p:=by dsimp only[Vi];omega):p:=h
theorem A0 {p:Prop} (h:p:=by first|decide|omega|(dsimp only;omega)|((try simp only[Aq,C7,Hr,A7,List.length_nil,List.length_append,List.length_cons,List.length_set,List.length_take,List.length_drop,List.length_replicate,Nat.zero_add,Nat.add_zero]at*);omega)):p:=h
theorem Bo {p:Prop} (h:p:=by((try simp only[Aq,C7,Hr,A7,List.length_nil,List.length_append,List.length_cons,List.length_set,List.length_take,List.length_drop,List.length_replicate,Nat.zero_add,Nat.add_zero]at*);omega)):p:=h
theorem Aqf {p:Prop} (h:p:=by(dsimp only;first|assumption|(apply_assumption;assumption))):p:=h
theorem Ni {p:Prop} (h:p:=by assumption):p:=h
theorem Bz {p:Prop} (h:p:=by(dsimp only;first|exact Gw|assumption|(apply_assumption;assumption))):p:=h
theorem Gj {p:Prop} (h:p:=by first|assumption|(apply_assumption;assumption)):p:=h
end
end Go.Proofs.YtnbbbaplphcebaaGreat
