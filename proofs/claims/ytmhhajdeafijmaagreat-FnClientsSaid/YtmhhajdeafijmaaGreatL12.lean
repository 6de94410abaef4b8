/-
  That the program and the reference answer alike, in plain terms, and that the laws answer true.
-/
import Derived.Test.YtmhhajdeafijmaaGreatL11
namespace Go.Proofs.YtmhhajdeafijmaaGreat
open Go.RowKit
set_option linter.unusedVariables false
set_option linter.unusedSimpArgs false
set_option maxRecDepth 100000
set_option maxHeartbeats 4000000
noncomputable section
theorem Amc (d:Bs) (h:Ds d≤4294967296):Re d=some d:=by
 simp only[Ds]at h
 unfold Re Ack
 simp only[Aq,Af,List.length_nil,Nat.zero_add,List.nil_append]
 rw[Ap h];rfl
theorem Azn (d:Bs) (h:Ds d≤4294967296):Afk d=some d:=Amc d h
theorem Aqk (d:YEp) (h:Bp d≤4294967296):Lq d=some d:=by
 simp only[Bp]at h
 unfold Lq Agz
 simp (disch:=first|omega|(dsimp only;omega)|(simp only[Ds];omega)) only[Al,Af,C4,Amc,An]
theorem Aig (d:YEp) (h:Bp d≤4294967296):Lk d=some d:=by
 simp only[Bp]at h
 unfold Lk Afl
 simp (disch:=first|omega|(dsimp only;omega)|(simp only[Ds];omega)) only[Al,Aq,Af,Azn,An,List.length_nil,Nat.zero_add,List.nil_append,Ap,Bd]
theorem Bba (d:YEp) (b:Bool×Unit) (h:Bp d≤4294967296):Aj6 d b=some d:=by
 have h':=h
 simp only[Bp]at h
 unfold Aj6 Aj5
 simp (disch:=first|omega|(dsimp only;omega)) only[Aj,Al,Aq,Af,Aig,An,List.length_nil,Nat.zero_add,List.nil_append,Ap,Bd]
 cases b.1<;>rfl
theorem Aih (d:Ai) (h:A0 d≤4294967296):Ku d=some d:=by
 simp only[A0]at h
 unfold Ku X6
 simp (disch:=first|omega|(dsimp only;omega)|(simp only[Bp];omega)) only[Al,Aq,Af,C4,Aqk,An]
theorem Abe (d:Ai) (h:A0 d≤4294967296):Ma d=some d:=by
 simp only[A0]at h
 unfold Ma Aby
 simp (disch:=first|omega|(dsimp only;omega)|(simp only[Bp];omega)) only[Al,Aq,Af,Aig,Bba,An,List.length_nil,Nat.zero_add,List.nil_append,Ap,Bd]
def Km (b:YBs):Bool:=inR (b.1.length:Int) 1 32
theorem Auq (b:YBs):Sa b=some (Km b,()):=by
 unfold Sa Akp
 simp only[Al,Af,Ch,An];rfl
theorem Ane (b:YBs):Kp b=some (Km b,()):=by
 unfold Kp Aj4
 simp only[Al,Af,Cz,An];rfl
end
end Go.Proofs.YtmhhajdeafijmaaGreat
