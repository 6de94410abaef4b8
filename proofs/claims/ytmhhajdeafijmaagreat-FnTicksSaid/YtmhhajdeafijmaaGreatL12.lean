/-
  That the program and the reference answer alike, in plain terms, and that the laws answer true.
-/
import Derived.Test.YtmhhajdeafijmaaGreatL11
namespace Go.Proofs.YtmhhajdeafijmaaGreat
open Go.RowKit
set_option linter.unusedVariables false
set_option linter.unusedSimpArgs false
set_option maxRecDepth 100000
set_option maxHeartbeats 4000000
noncomputable section
theorem Al2 (d:Bn) (h:Dx d≤4294967296):Sa d=some d:=by
 simp only[Dx]at h
 unfold Sa Ac4
 simp only[Ao,Ad,List.length_nil,Nat.zero_add,List.nil_append]
 rw[Am h];rfl
theorem Ay9 (d:Bn) (h:Dx d≤4294967296):Ahn d=some d:=Al2 d h
theorem Aih (d:YEp) (h:Bj d≤4294967296):L7 d=some d:=by
 simp only[Bj]at h
 unfold L7 Agu
 simp (disch:=first|omega|(dsimp only;omega)|(simp only[Dx];omega)) only[Ai,Ad,Cd,Al2,Aj]
theorem Aii (d:YEp) (h:Bj d≤4294967296):L5 d=some d:=by
 simp only[Bj]at h
 unfold L5 Af4
 simp (disch:=first|omega|(dsimp only;omega)|(simp only[Dx];omega)) only[Ai,Ao,Ad,Ay9,Aj,List.length_nil,Nat.zero_add,List.nil_append,Am,A5]
theorem Bam (d:YEp) (b:Bool×Unit) (h:Bj d≤4294967296):Alh d b=some d:=by
 have h':=h
 simp only[Bj]at h
 unfold Alh Aj7
 simp (disch:=first|omega|(dsimp only;omega)) only[Ag,Ai,Ao,Ad,Aii,Aj,List.length_nil,Nat.zero_add,List.nil_append,Am,A5]
 cases b.1<;>rfl
theorem Me (d:Af) (h:Ar d≤4294967296):Fd d=some d:=by
 simp only[Ar]at h
 unfold Fd Zb
 simp (disch:=first|omega|(dsimp only;omega)|(simp only[Bj];omega)) only[Ai,Ao,Ad,Cd,Aih,Aj]
theorem Tb (d:Af) (h:Ar d≤4294967296):Mu d=some d:=by
 simp only[Ar]at h
 unfold Mu Acj
 simp (disch:=first|omega|(dsimp only;omega)|(simp only[Bj];omega)) only[Ai,Ao,Ad,Aii,Bam,Aj,List.length_nil,Nat.zero_add,List.nil_append,Am,A5]
def Gx (b:YBs):Bool:=inR (b.1.length:Int) 1 32
theorem Aub (b:YBs):S7 b=some (Gx b,()):=by
 unfold S7 Akx
 simp only[Ai,Ad,Br,Aj];rfl
theorem Afh (b:YBs):Ld b=some (Gx b,()):=by
 unfold Ld Aj5
 simp only[Ai,Ad,Cb,Aj];rfl
end
end Go.Proofs.YtmhhajdeafijmaaGreat
