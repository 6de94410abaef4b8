/-
  That the functions of the seat answer what the terms of text W say; nothing is assumed.
-/
import Derived.Test.YtmhhajdeafijmaaGreatP0
namespace Go.Proofs.YtmhhajdeafijmaaGreat
open Go.RowKit
set_option linter.unusedVariables false
set_option maxRecDepth 100000
set_option maxHeartbeats 4000000
noncomputable section
def Na:List (Bool×List Sh):=[g_0]
def Acn (r:(Bool×Unit)):List RV×List RV:=([rv g_1 r],[])
def Asb:Ax:=Aw Na (fun d=>(Jy d.1).val) Acn
theorem Apy:Fn Tryz.prog 4 .plain Asb:=mkF [(26,.plain,A0v),(27,.view,Aim),(28,.plain,Ai1),(29,.plain,Ael),(30,.plain,Apu),(31,.plain,Al1),(32,.plain,Ai4),(33,.plain,Apx),(34,.plain,Sc)] ⟨A6v,Au5,Avh,Alr,Azz,Awv,Avk,Az2,T4,trivial⟩ Tryz.func4 0
end
end Go.Proofs.YtmhhajdeafijmaaGreat
