/-
  That the program and the reference answer alike, in plain terms, and that the laws answer true.
-/
import Derived.Test.YtnbbbaplphcebaaGreatW
namespace Go.Proofs.YtnbbbaplphcebaaGreat
open Go.RowKit
set_option linter.unusedVariables false
set_option linter.unusedSimpArgs false
set_option maxHeartbeats 4000000
noncomputable section
theorem Ca {α:Type} {l:List α} {i:Nat} {x:α} (h:l[i]? =some x):idx l (i:Int)=some x:=(Bi8 l i).trans h
theorem Dj {i n:Nat} (h:i<n):decide ((i:Int)<(n:Int))=true:=by simpa using h
theorem Dk (n:Nat):decide ((n:Int)<(n:Int))=false:=by simp
theorem Al {p:Prop} [Decidable p] (h:p):decide p=true:=by simpa using h
theorem Bq {p:Prop} [Decidable p] (h: ¬p):decide p=false:=by simpa using h
theorem C6 {ρ:Type} {b:Bool} {x y:Option ρ} (h:b=false):br b x y=y:=by subst h;rfl
theorem Ei {ρ:Type} {b:Bool} {x y:Option ρ} (h:b=true):br b x y=x:=by subst h;rfl
def Ga (d:Db):Nat:=d.2.1.length
def Fy (d:A8):Nat:=d.2.2.1.length
def Cu (d:YEp):Nat:=d.2.1.length+d.2.2.2.2.1.length
def Bb (d:Bm):Nat:=d.2.2.1.length+Bu Fy d.2.2.1
def F0 (d:Ay):Nat:=d.2.2.2.1.length+d.2.2.2.2.1.length+d.2.2.2.2.2.2.2.1.length+d.2.2.2.2.2.2.2.2.1.length
def Ar (d:Aq):Nat:=d.2.2.1.length+d.2.2.2.1.length+d.2.2.2.2.2.1.length+d.2.2.2.2.2.2.1.length+d.2.2.2.2.2.2.2.2.2.1.length+d.2.2.2.2.2.2.2.2.2.2.1.length
def H7 (d:Bc):Nat:=d.2.2.2.2.1.length+d.2.2.2.2.2.1.length+d.2.2.2.2.2.2.2.1.length+d.2.2.2.2.2.2.2.2.1.length+d.2.2.2.2.2.2.2.2.2.2.2.1.length+d.2.2.2.2.2.2.2.2.2.2.2.2.1.length
def A6 (d:Ap):Nat:=d.2.1.length+d.2.2.2.1.length+d.2.2.2.2.2.2.1.length+d.2.2.2.2.2.2.2.2.1.length+d.2.2.2.2.2.2.2.2.2.2.2.1.length+d.2.2.2.2.2.2.2.2.2.2.2.2.2.2.1.length
def A0 (d:Ak):Nat:=d.2.1.length+d.2.2.1.length+d.2.2.2.2.1.length+d.2.2.2.2.2.2.1.length+d.2.2.2.2.2.2.2.2.2.1.length+d.2.2.2.2.2.2.2.2.2.2.2.1.length+d.2.2.2.2.2.2.2.2.2.2.2.2.2.2.1.length+d.2.2.2.2.2.2.2.2.2.2.2.2.2.2.2.2.2.1.length+d.2.2.2.2.2.2.2.2.2.2.2.2.2.2.2.2.2.2.2.2.1.length+Bu Fy d.2.2.2.2.2.2.2.2.2.2.2.2.2.2.2.2.2.2.2.2.1
def Cd (d:Ch):Nat:=d.2.1.length+Bu A0 d.2.1
def Ey (d:YBs):Nat:=d.1.length
def Bo (d:Bs):Nat:=d.1.length+Bu Ey d.1+d.2.1.length+d.2.2.1.length+d.2.2.2.2.2.1.length+Bu A0 d.2.2.2.2.2.1+d.2.2.2.2.2.2.1.length
theorem zq0 {p:Prop} (h:p:=by omega):p:=h
theorem zq1 {p:Prop} (h:p:=by simp;omega):p:=h
theorem zq2 {p:Prop} (h:p:=by dsimp only;omega):p:=h
theorem zq3 {p:Prop} (h:p:=by simp):p:=h
theorem zq4 {p:Prop} (h:p:=by simp[Gb];omega):p:=h
theorem zq5 {p:Prop} (h:p:=by simp[cat];omega):p:=h
theorem zq6 {p:Prop} (h:p:=by simp[cat,Gb];omega):p:=h
theorem zq7 {p:Prop} (h:p:=by decide):p:=h
theorem zq8 {p:Prop} (h:p:=by simp[inR];omega):p:=h
theorem zq9 {p:Prop} (h:p:=by simp[Ap9];omega):p:=h
theorem A53 {p:Prop} (h:p:=by dsimp only[Lq];omega):p:=h
theorem A54 {p:Prop} (h:p:=by dsimp only[Vh];omega):p:=h
theorem A5 {p:Prop} (h:p:=by first|decide|omega|(dsimp only;omega)|((try simp only[Ar,Cu,Ga,A6,List.length_nil,List.length_append,List.length_cons,List.length_set,List.length_take,List.length_drop,List.length_replicate,Nat.zero_add,Nat.add_zero]at*);omega)):p:=h
theorem Bp {p:Prop} (h:p:=by((try simp only[Ar,Cu,Ga,A6,List.length_nil,List.length_append,List.length_cons,List.length_set,List.length_take,List.length_drop,List.length_replicate,Nat.zero_add,Nat.add_zero]at*);omega)):p:=h
theorem Aqa {p:Prop} (h:p:=by(dsimp only;first|assumption|(apply_assumption;assumption))):p:=h
theorem Ng {p:Prop} (h:p:=by assumption):p:=h
theorem Bx {p:Prop} (h:p:=by(dsimp only;first|exact Gs|assumption|(apply_assumption;assumption))):p:=h
theorem Gi {p:Prop} (h:p:=by first|assumption|(apply_assumption;assumption)):p:=h
end
end Go.Proofs.YtnbbbaplphcebaaGreat
