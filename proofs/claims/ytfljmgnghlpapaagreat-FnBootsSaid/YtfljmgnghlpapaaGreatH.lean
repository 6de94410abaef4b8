/-
  That the program and the reference answer alike, in plain terms, and that the laws answer true.
-/
import Derived.Test.YtfljmgnghlpapaaGreatW
namespace Go.Proofs.YtfljmgnghlpapaaGreat
open Go.RowKit
set_option linter.unusedVariables false
set_option linter.unusedSimpArgs false
set_option maxHeartbeats 4000000
noncomputable section
theorem Bk {α:Type} {l:List α} {i:Nat} {x:α} (h:l[i]? =some x):idx l (i:Int)=some x:=(A72 l i).trans h
theorem By {i n:Nat} (h:i<n):decide ((i:Int)<(n:Int))=true:=by simpa using h
theorem Bz (n:Nat):decide ((n:Int)<(n:Int))=false:=by simp
theorem An {p:Prop} [Decidable p] (h:p):decide p=true:=by simpa using h
theorem Bj {p:Prop} [Decidable p] (h: ¬p):decide p=false:=by simpa using h
theorem Em {ρ:Type} {b:Bool} {x y:Option ρ} (h:b=false):br b x y=y:=by subst h;rfl
theorem Fu {ρ:Type} {b:Bool} {x y:Option ρ} (h:b=true):br b x y=x:=by subst h;rfl
def E6 (d:Cj):Nat:=d.2.1.length
def Dm (d:Ap):Nat:=d.2.2.1.length
def En (d:YEp):Nat:=d.2.1.length+d.2.2.2.2.1.length
def A1 (d:Bb):Nat:=d.2.2.1.length+Co Dm d.2.2.1
def Tu (d:A6):Nat:=d.2.2.2.1.length+d.2.2.2.2.1.length+d.2.2.2.2.2.2.2.1.length+d.2.2.2.2.2.2.2.2.1.length
def Da (d:Ch):Nat:=d.2.2.1.length+d.2.2.2.1.length+d.2.2.2.2.2.1.length+d.2.2.2.2.2.2.1.length+d.2.2.2.2.2.2.2.2.2.1.length+d.2.2.2.2.2.2.2.2.2.2.1.length
def Bs (d:Bt):Nat:=d.2.1.length+d.2.2.2.1.length+d.2.2.2.2.2.2.1.length+d.2.2.2.2.2.2.2.2.1.length+d.2.2.2.2.2.2.2.2.2.2.2.1.length+d.2.2.2.2.2.2.2.2.2.2.2.2.2.2.1.length
def Aw (d:Ad):Nat:=d.2.1.length+d.2.2.1.length+d.2.2.2.2.1.length+d.2.2.2.2.2.2.1.length+d.2.2.2.2.2.2.2.2.2.1.length+d.2.2.2.2.2.2.2.2.2.2.2.1.length+d.2.2.2.2.2.2.2.2.2.2.2.2.2.2.1.length+d.2.2.2.2.2.2.2.2.2.2.2.2.2.2.2.2.2.1.length+d.2.2.2.2.2.2.2.2.2.2.2.2.2.2.2.2.2.2.2.2.1.length+Co Dm d.2.2.2.2.2.2.2.2.2.2.2.2.2.2.2.2.2.2.2.2.1
def Bg (d:Bp):Nat:=d.2.1.length+Co Aw d.2.1
def Ik (d:YBs):Nat:=d.1.length
def A3 (d:Az):Nat:=d.1.length+Co Ik d.1+d.2.1.length+d.2.2.1.length+d.2.2.2.2.2.1.length+Co Aw d.2.2.2.2.2.1+d.2.2.2.2.2.2.1.length
theorem zq0 {p:Prop} (h:p:=by omega):p:=h
theorem zq1 {p:Prop} (h:p:=by simp;omega):p:=h
theorem zq2 {p:Prop} (h:p:=by dsimp only;omega):p:=h
theorem zq3 {p:Prop} (h:p:=by simp):p:=h
theorem zq4 {p:Prop} (h:p:=by decide):p:=h
theorem zq5 {p:Prop} (h:p:=by simp[Ahw];omega):p:=h
theorem zq6 {p:Prop} (h:p:=by simp only[Bg];omega):p:=h
theorem zq7 {p:Prop} (h:p:=by first|decide|omega|(dsimp only;omega)|((try simp only[Da,En,E6,Bs,List.length_nil,List.length_append,List.length_cons,List.length_set,List.length_take,List.length_drop,List.length_replicate,Nat.zero_add,Nat.add_zero]at*);omega)):p:=h
theorem zq8 {p:Prop} (h:p:=by((try simp only[Da,En,E6,Bs,List.length_nil,List.length_append,List.length_cons,List.length_set,List.length_take,List.length_drop,List.length_replicate,Nat.zero_add,Nat.add_zero]at*);omega)):p:=h
theorem zq9 {p:Prop} (h:p:=by(dsimp only;first|exact Fr|assumption|(apply_assumption;assumption))):p:=h
theorem A73 {p:Prop} (h:p:=by simp only[List.length_cons,List.length_nil];omega):p:=h
end
end Go.Proofs.YtfljmgnghlpapaaGreat
