/-
  That the program and the reference answer alike, in plain terms, and that the laws answer true.
-/
import Derived.Test.YtjlblagmjlmglaaGreatL11
namespace Go.Proofs.YtjlblagmjlmglaaGreat
open Go.RowKit
set_option linter.unusedVariables false
set_option linter.unusedSimpArgs false
set_option maxRecDepth 100000
set_option maxHeartbeats 4000000
noncomputable section
theorem Alu (d:Bp) (h:D0 d≤4294967296):Rs d=some d:=by
 simp only[D0]at h
 unfold Rs Ach
 simp only[Ap,Ad,List.length_nil,Nat.zero_add,List.nil_append]
 rw[Ao h];rfl
theorem Azg (d:Bp) (h:D0 d≤4294967296):Ag1 d=some d:=Alu d h
theorem Ap4 (d:YEp) (h:Bm d≤4294967296):L4 d=some d:=by
 simp only[Bm]at h
 unfold L4 Agd
 simp (disch:=first|omega|(dsimp only;omega)|(simp only[D0];omega)) only[Aj,Ad,Cg,Alu,Al]
theorem Ahy (d:YEp) (h:Bm d≤4294967296):L0 d=some d:=by
 simp only[Bm]at h
 unfold L0 Afj
 simp (disch:=first|omega|(dsimp only;omega)|(simp only[D0];omega)) only[Aj,Ap,Ad,Azg,Al,List.length_nil,Nat.zero_add,List.nil_append,Ao,A8]
theorem Ba6 (d:YEp) (b:Bool×Unit) (h:Bm d≤4294967296):Ak5 d b=some d:=by
 have h':=h
 simp only[Bm]at h
 unfold Ak5 Ajn
 simp (disch:=first|omega|(dsimp only;omega)) only[Ai,Aj,Ap,Ad,Ahy,Al,List.length_nil,Nat.zero_add,List.nil_append,Ao,A8]
 cases b.1<;>rfl
theorem Ahz (d:Af) (h:A0 d≤4294967296):Fy d=some d:=by
 simp only[A0]at h
 unfold Fy Xo
 simp (disch:=first|omega|(dsimp only;omega)|(simp only[Bm];omega)) only[Aj,Ap,Ad,Cg,Ap4,Al]
theorem Aa5 (d:Af) (h:A0 d≤4294967296):Mk d=some d:=by
 simp only[A0]at h
 unfold Mk Abs
 simp (disch:=first|omega|(dsimp only;omega)|(simp only[Bm];omega)) only[Aj,Ap,Ad,Ahy,Ba6,Al,List.length_nil,Nat.zero_add,List.nil_append,Ao,A8]
def F9 (b:YBs):Bool:=inR (b.1.length:Int) 1 32
theorem Aua (b:YBs):Sl b=some (F9 b,()):=by
 unfold Sl Akm
 simp only[Aj,Ad,B6,Al];rfl
theorem W4 (b:YBs):K8 b=some (F9 b,()):=by
 unfold K8 Ajl
 simp only[Aj,Ad,Bv,Al];rfl
end
end Go.Proofs.YtjlblagmjlmglaaGreat
