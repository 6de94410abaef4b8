/-
  That the program and the reference answer alike, in plain terms, and that the laws answer true.
-/
import Derived.Test.YtfljmgnghlpapaaGreatW
namespace Go.Proofs.YtfljmgnghlpapaaGreat
open Go.RowKit
set_option linter.unusedVariables false
set_option linter.unusedSimpArgs false
set_option maxHeartbeats 4000000
noncomputable section
theorem B7 {α:Type} {l:List α} {i:Nat} {x:α} (h:l[i]? =some x):idx l (i:Int)=some x:=(Asr l i).trans h
theorem Db {i n:Nat} (h:i<n):decide ((i:Int)<(n:Int))=true:=by simpa using h
theorem Dc (n:Nat):decide ((n:Int)<(n:Int))=false:=by simp
theorem Ao {p:Prop} [Decidable p] (h:p):decide p=true:=by simpa using h
theorem Bn {p:Prop} [Decidable p] (h: ¬p):decide p=false:=by simpa using h
theorem Fg {ρ:Type} {b:Bool} {x y:Option ρ} (h:b=false):br b x y=y:=by subst h;rfl
theorem Gj {ρ:Type} {b:Bool} {x y:Option ρ} (h:b=true):br b x y=x:=by subst h;rfl
def Dz (d:Bs):Nat:=d.2.1.length
def Ck (d:Aj):Nat:=d.2.2.1.length
def Dj (d:YEp):Nat:=d.2.1.length+d.2.2.2.2.1.length
def Av (d:A4):Nat:=d.2.2.1.length+C4 Ck d.2.2.1
def Ce (d:D4):Nat:=d.2.2.1.length+d.2.2.2.1.length+d.2.2.2.2.2.1.length+d.2.2.2.2.2.2.1.length+d.2.2.2.2.2.2.2.2.2.1.length+d.2.2.2.2.2.2.2.2.2.2.1.length
def Bf (d:Bl):Nat:=d.2.1.length+d.2.2.2.1.length+d.2.2.2.2.2.2.1.length+d.2.2.2.2.2.2.2.2.1.length+d.2.2.2.2.2.2.2.2.2.2.2.1.length+d.2.2.2.2.2.2.2.2.2.2.2.2.2.2.1.length
def Az (d:Af):Nat:=d.2.1.length+d.2.2.1.length+d.2.2.2.2.1.length+d.2.2.2.2.2.2.1.length+d.2.2.2.2.2.2.2.2.2.1.length+d.2.2.2.2.2.2.2.2.2.2.2.1.length+d.2.2.2.2.2.2.2.2.2.2.2.2.2.2.1.length+d.2.2.2.2.2.2.2.2.2.2.2.2.2.2.2.2.2.1.length+d.2.2.2.2.2.2.2.2.2.2.2.2.2.2.2.2.2.2.2.2.1.length+C4 Ck d.2.2.2.2.2.2.2.2.2.2.2.2.2.2.2.2.2.2.2.2.1
def A3 (d:A7):Nat:=d.2.1.length+C4 Az d.2.1
theorem zq0 {p:Prop} (h:p:=by omega):p:=h
theorem zq1 {p:Prop} (h:p:=by simp;omega):p:=h
theorem zq2 {p:Prop} (h:p:=by dsimp only;omega):p:=h
theorem zq3 {p:Prop} (h:p:=by decide):p:=h
theorem zq4 {p:Prop} (h:p:=by first|decide|omega|(dsimp only;omega)|((try simp only[Ce,Dj,Dz,Bf,List.length_nil,List.length_append,List.length_cons,List.length_set,List.length_take,List.length_drop,List.length_replicate,Nat.zero_add,Nat.add_zero]at*);omega)):p:=h
theorem zq5 {p:Prop} (h:p:=by((try simp only[Ce,Dj,Dz,Bf,List.length_nil,List.length_append,List.length_cons,List.length_set,List.length_take,List.length_drop,List.length_replicate,Nat.zero_add,Nat.add_zero]at*);omega)):p:=h
theorem zq6 {p:Prop} (h:p:=by(dsimp only;first|exact Fp|assumption|(apply_assumption;assumption))):p:=h
theorem zq7 {p:Prop} (h:p:=by simp only[List.length_cons,List.length_nil];omega):p:=h
end
end Go.Proofs.YtfljmgnghlpapaaGreat
