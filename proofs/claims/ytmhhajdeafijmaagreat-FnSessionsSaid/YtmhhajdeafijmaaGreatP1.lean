/-
  That the functions of the seat answer what the terms of text W say; nothing is assumed.
-/
import Derived.Test.YtmhhajdeafijmaaGreatP0
namespace Go.Proofs.YtmhhajdeafijmaaGreat
open Go.RowKit
set_option linter.unusedVariables false
set_option maxRecDepth 100000
set_option maxHeartbeats 4000000
noncomputable section
def Mx:List (Bool×List Sh):=[g_0]
def Ab2 (r:(Bool×Unit)):List RV×List RV:=([rv g_1 r],[])
def Aqi:Ax:=Aw Mx (fun d=>(Jn d.1).val) Ab2
theorem Aob:Fn Tryz.prog 4 .plain Aqi:=mkF [(26,.plain,Ayv),(27,.view,Ahr),(28,.plain,Ah3),(29,.plain,Aen),(30,.plain,An7),(31,.plain,Aks),(32,.plain,Ah6),(33,.plain,Aoa),(34,.plain,Rr)] ⟨A4p,As6,Ati,Akj,Axv,Auw,Atl,Axy,Th,trivial⟩ Tryz.func4 0
end
end Go.Proofs.YtmhhajdeafijmaaGreat
