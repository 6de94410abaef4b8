/-
  That the program and the reference answer alike, in plain terms, and that the laws answer true.
-/
import Derived.Test.YtmhhajdeafijmaaGreatW
namespace Go.Proofs.YtmhhajdeafijmaaGreat
open Go.RowKit
set_option linter.unusedVariables false
set_option linter.unusedSimpArgs false
set_option maxHeartbeats 4000000
noncomputable section
theorem Ce {α:Type} {l:List α} {i:Nat} {x:α} (h:l[i]? =some x):idx l (i:Int)=some x:=(A2m l i).trans h
theorem En {i n:Nat} (h:i<n):decide ((i:Int)<(n:Int))=true:=by simpa using h
theorem Eo (n:Nat):decide ((n:Int)<(n:Int))=false:=by simp
theorem Al {p:Prop} [Decidable p] (h:p):decide p=true:=by simpa using h
theorem Bi {p:Prop} [Decidable p] (h: ¬p):decide p=false:=by simpa using h
theorem Dv {ρ:Type} {b:Bool} {x y:Option ρ} (h:b=false):br b x y=y:=by subst h;rfl
theorem F3 {ρ:Type} {b:Bool} {x y:Option ρ} (h:b=true):br b x y=x:=by subst h;rfl
def D7 (d:Bv):Nat:=d.2.1.length
def Cf (d:Am):Nat:=d.2.2.1.length
def Bs (d:YEp):Nat:=d.2.1.length+d.2.2.2.2.1.length
def A0 (d:A7):Nat:=d.2.2.1.length+Cm Cf d.2.2.1
def Ev (d:A2):Nat:=d.2.2.2.1.length+d.2.2.2.2.1.length+d.2.2.2.2.2.2.2.1.length+d.2.2.2.2.2.2.2.2.1.length
def Aq (d:Au):Nat:=d.2.2.1.length+d.2.2.2.1.length+d.2.2.2.2.2.1.length+d.2.2.2.2.2.2.1.length+d.2.2.2.2.2.2.2.2.2.1.length+d.2.2.2.2.2.2.2.2.2.2.1.length
def Gq (d:Bj):Nat:=d.2.2.2.2.1.length+d.2.2.2.2.2.1.length+d.2.2.2.2.2.2.2.1.length+d.2.2.2.2.2.2.2.2.1.length+d.2.2.2.2.2.2.2.2.2.2.2.1.length+d.2.2.2.2.2.2.2.2.2.2.2.2.1.length
def Ax (d:Aj):Nat:=d.2.1.length+d.2.2.2.1.length+d.2.2.2.2.2.2.1.length+d.2.2.2.2.2.2.2.2.1.length+d.2.2.2.2.2.2.2.2.2.2.2.1.length+d.2.2.2.2.2.2.2.2.2.2.2.2.2.2.1.length
def Bm (d:A4):Nat:=d.2.1.length+d.2.2.1.length+d.2.2.2.2.1.length+d.2.2.2.2.2.2.1.length+d.2.2.2.2.2.2.2.2.2.1.length+d.2.2.2.2.2.2.2.2.2.2.2.1.length+d.2.2.2.2.2.2.2.2.2.2.2.2.2.2.1.length+d.2.2.2.2.2.2.2.2.2.2.2.2.2.2.2.2.2.1.length+d.2.2.2.2.2.2.2.2.2.2.2.2.2.2.2.2.2.2.2.2.1.length+Cm Cf d.2.2.2.2.2.2.2.2.2.2.2.2.2.2.2.2.2.2.2.2.1
def Amg (d:A8o):Nat:=d.2.1.length+d.2.2.2.2.2.1.length+d.2.2.2.2.2.2.2.2.1.length+d.2.2.2.2.2.2.2.2.2.1.length+d.2.2.2.2.2.2.2.2.2.2.2.1.length+d.2.2.2.2.2.2.2.2.2.2.2.2.1.length+d.2.2.2.2.2.2.2.2.2.2.2.2.2.2.2.1.length+d.2.2.2.2.2.2.2.2.2.2.2.2.2.2.2.2.1.length+d.2.2.2.2.2.2.2.2.2.2.2.2.2.2.2.2.2.2.1.length+d.2.2.2.2.2.2.2.2.2.2.2.2.2.2.2.2.2.2.2.2.1.length+d.2.2.2.2.2.2.2.2.2.2.2.2.2.2.2.2.2.2.2.2.2.2.2.1.length+d.2.2.2.2.2.2.2.2.2.2.2.2.2.2.2.2.2.2.2.2.2.2.2.2.2.1.length+d.2.2.2.2.2.2.2.2.2.2.2.2.2.2.2.2.2.2.2.2.2.2.2.2.2.2.2.2.1.length+d.2.2.2.2.2.2.2.2.2.2.2.2.2.2.2.2.2.2.2.2.2.2.2.2.2.2.2.2.2.2.2.1.length
theorem zq0 {p:Prop} (h:p:=by omega):p:=h
theorem zq1 {p:Prop} (h:p:=by simp;omega):p:=h
theorem zq2 {p:Prop} (h:p:=by dsimp only;omega):p:=h
theorem zq3 {p:Prop} (h:p:=by decide):p:=h
theorem zq4 {p:Prop} (h:p:=by simp[Afm];omega):p:=h
theorem zq5 {p:Prop} (h:p:=by dsimp only[I1];omega):p:=h
theorem zq6 {p:Prop} (h:p:=by dsimp only[Qk];omega):p:=h
theorem zq7 {p:Prop} (h:p:=by first|decide|omega|(dsimp only;omega)|((try simp only[Aq,Bs,D7,Ax,Amg,List.length_nil,List.length_append,List.length_cons,List.length_set,List.length_take,List.length_drop,List.length_replicate,Nat.zero_add,Nat.add_zero]at*);omega)):p:=h
theorem zq8 {p:Prop} (h:p:=by((try simp only[Aq,Bs,D7,Ax,Amg,List.length_nil,List.length_append,List.length_cons,List.length_set,List.length_take,List.length_drop,List.length_replicate,Nat.zero_add,Nat.add_zero]at*);omega)):p:=h
theorem zq9 {p:Prop} (h:p:=by(dsimp only;first|assumption|(apply_assumption;assumption))):p:=h
theorem Ba {p:Prop} (h:p:=by(dsimp only;first|exact Fu|assumption|(apply_assumption;assumption))):p:=h
theorem D5 {p:Prop} (h:p:=by first|assumption|(apply_assumption;assumption)):p:=h
end
end Go.Proofs.YtmhhajdeafijmaaGreat
