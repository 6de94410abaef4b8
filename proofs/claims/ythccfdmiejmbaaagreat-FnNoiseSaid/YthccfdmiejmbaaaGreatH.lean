/-
  That the program and the reference answer alike, in plain terms, and that the laws answer true.
-/
import Derived.Test.YthccfdmiejmbaaaGreatW
namespace Go.Proofs.YthccfdmiejmbaaaGreat
open Go.RowKit
set_option linter.unusedVariables false
set_option linter.unusedSimpArgs false
set_option maxHeartbeats 4000000
noncomputable section
theorem B8 {α:Type} {l:List α} {i:Nat} {x:α} (h:l[i]? =some x):idx l (i:Int)=some x:=(Bn4 l i).trans h
theorem Dh {i n:Nat} (h:i<n):decide ((i:Int)<(n:Int))=true:=by simpa using h
theorem Di (n:Nat):decide ((n:Int)<(n:Int))=false:=by simp
theorem Ai {p:Prop} [Decidable p] (h:p):decide p=true:=by simpa using h
theorem Bt {p:Prop} [Decidable p] (h: ¬p):decide p=false:=by simpa using h
theorem C4 {ρ:Type} {b:Bool} {x y:Option ρ} (h:b=false):br b x y=y:=by subst h;rfl
theorem Dv {ρ:Type} {b:Bool} {x y:Option ρ} (h:b=true):br b x y=x:=by subst h;rfl
def Gv (d:Dg):Nat:=d.2.1.length
def D0 (d:Bb):Nat:=d.2.2.1.length
def Cu (d:YEp):Nat:=d.2.1.length+d.2.2.2.2.1.length
def Bd (d:Bn):Nat:=d.2.2.1.length+Br D0 d.2.2.1
def Gm (d:Aq):Nat:=d.2.2.2.1.length+d.2.2.2.2.1.length+d.2.2.2.2.2.2.2.1.length+d.2.2.2.2.2.2.2.2.1.length
def Av (d:Ap):Nat:=d.2.2.1.length+d.2.2.2.1.length+d.2.2.2.2.2.1.length+d.2.2.2.2.2.2.1.length+d.2.2.2.2.2.2.2.2.2.1.length+d.2.2.2.2.2.2.2.2.2.2.1.length
def Ij (d:Az):Nat:=d.2.2.2.2.1.length+d.2.2.2.2.2.1.length+d.2.2.2.2.2.2.2.1.length+d.2.2.2.2.2.2.2.2.1.length+d.2.2.2.2.2.2.2.2.2.2.2.1.length+d.2.2.2.2.2.2.2.2.2.2.2.2.1.length
def A9 (d:Au):Nat:=d.2.1.length+d.2.2.2.1.length+d.2.2.2.2.2.2.1.length+d.2.2.2.2.2.2.2.2.1.length+d.2.2.2.2.2.2.2.2.2.2.2.1.length+d.2.2.2.2.2.2.2.2.2.2.2.2.2.2.1.length
def A5 (d:Al):Nat:=d.2.1.length+d.2.2.1.length+d.2.2.2.2.1.length+d.2.2.2.2.2.2.1.length+d.2.2.2.2.2.2.2.2.2.1.length+d.2.2.2.2.2.2.2.2.2.2.2.1.length+d.2.2.2.2.2.2.2.2.2.2.2.2.2.2.1.length+d.2.2.2.2.2.2.2.2.2.2.2.2.2.2.2.2.2.1.length+d.2.2.2.2.2.2.2.2.2.2.2.2.2.2.2.2.2.2.2.2.1.length+Br D0 d.2.2.2.2.2.2.2.2.2.2.2.2.2.2.2.2.2.2.2.2.1
def Cf (d:Ck):Nat:=d.2.1.length+Br A5 d.2.1
def Ec (d:YBs):Nat:=d.1.length
def Bh (d:Bc):Nat:=d.1.length+Br Ec d.1+d.2.1.length+d.2.2.1.length+d.2.2.2.2.2.1.length+Br A5 d.2.2.2.2.2.1+d.2.2.2.2.2.2.1.length
theorem zq0 {p:Prop} (h:p:=by omega):p:=h
theorem zq1 {p:Prop} (h:p:=by simp;omega):p:=h
theorem zq2 {p:Prop} (h:p:=by dsimp only;omega):p:=h
theorem zq3 {p:Prop} (h:p:=by simp):p:=h
theorem zq4 {p:Prop} (h:p:=by simp[Fi];omega):p:=h
theorem zq5 {p:Prop} (h:p:=by simp[cat];omega):p:=h
theorem zq6 {p:Prop} (h:p:=by simp[cat,Fi];omega):p:=h
theorem zq7 {p:Prop} (h:p:=by decide):p:=h
theorem zq8 {p:Prop} (h:p:=by simp[inR];omega):p:=h
theorem zq9 {p:Prop} (h:p:=by simp[At6];omega):p:=h
theorem Ba9 {p:Prop} (h:p:=by dsimp only[N0];omega):p:=h
theorem Bba {p:Prop} (h:p:=by dsimp only[Aah];omega):p:=h
theorem A7 {p:Prop} (h:p:=by first|decide|omega|(dsimp only;omega)|((try simp only[Av,Cu,Gv,A9,List.length_nil,List.length_append,List.length_cons,List.length_set,List.length_take,List.length_drop,List.length_replicate,Nat.zero_add,Nat.add_zero]at*);omega)):p:=h
theorem Bk {p:Prop} (h:p:=by((try simp only[Av,Cu,Gv,A9,List.length_nil,List.length_append,List.length_cons,List.length_set,List.length_take,List.length_drop,List.length_replicate,Nat.zero_add,Nat.add_zero]at*);omega)):p:=h
theorem At7 {p:Prop} (h:p:=by(dsimp only;first|assumption|(apply_assumption;assumption))):p:=h
theorem Ku {p:Prop} (h:p:=by assumption):p:=h
theorem By {p:Prop} (h:p:=by(dsimp only;first|exact Hb|assumption|(apply_assumption;assumption))):p:=h
theorem Gt {p:Prop} (h:p:=by first|assumption|(apply_assumption;assumption)):p:=h
theorem Aai {p:Prop} (h:p:=by simp<;>omega):p:=h
end
end Go.Proofs.YthccfdmiejmbaaaGreat
