/-
  That the functions of the seat answer what the terms of text W say; nothing is assumed.
-/
import Derived.Test.YtfljmgnghlpapaaGreatP0
namespace Go.Proofs.YtfljmgnghlpapaaGreat
open Go.RowKit
set_option linter.unusedVariables false
set_option maxRecDepth 100000
set_option maxHeartbeats 4000000
noncomputable section
def L3:List (Bool×List Sh):=[g_0]
def Ab9 (r:(Bool×Unit)):List RV×List RV:=([rv g_1 r],[])
def Ann:Ax:=Aw L3 (fun d=>(Ir d.1).val) Ab9
theorem Amm:Fn Tryz.prog 3 .plain Ann:=mkF [(6,.plain,Aq6),(7,.view,Sw),(8,.plain,Aeo),(9,.plain,Uk),(10,.view,Sx),(11,.plain,Aep),(12,.view,Sy),(13,.plain,Aeq),(14,.plain,Aer),(15,.plain,Oj),(16,.plain,Su),(17,.plain,Aet),(18,.plain,Xa),(19,.plain,Pw)] ⟨Awc,Afm,Ang,Abq,Afp,Ani,Afr,Anj,Ank,Px,W2,Anm,Abw,Ut,trivial⟩ Tryz.func3 0
end
end Go.Proofs.YtfljmgnghlpapaaGreat
