/-
  That the functions of the seat answer what the terms of text W say; nothing is assumed.
-/
import Derived.Test.YthccfdmiejmbaaaGreatP0
namespace Go.Proofs.YthccfdmiejmbaaaGreat
open Go.RowKit
set_option linter.unusedVariables false
set_option maxRecDepth 100000
set_option maxHeartbeats 4000000
noncomputable section
def U9:List (Bool×List Sh):=[g_0]
def A23 (r:(Bool×Unit)):List RV×List RV:=([rv g_1 r],[])
def Bla:As:=Ar U9 (fun d=>(Va d.1).val) A23
theorem Bhe:Fq 3 Bla:=mkF [Fz 5 Bl2,(6,.view,Adq),Fz 7 Ao2,(8,.view,Ao4),Fz 9 Ahw,Fz 10 Ahs,Fz 11 Xv,Fz 12 Ao5,Fz 13 Awl] ⟨Btd,Abc,A8a,A8k,Av9,Av6,Aeh,A8m,Ba3,trivial⟩ Tryz.func3 0
end
end Go.Proofs.YthccfdmiejmbaaaGreat
