/-
  That the functions of the seat answer what the terms of text W say; nothing is assumed.
-/
import Derived.Test.YtmhhajdeafijmaaGreatP0
namespace Go.Proofs.YtmhhajdeafijmaaGreat
open Go.RowKit
set_option linter.unusedVariables false
set_option maxRecDepth 100000
set_option maxHeartbeats 4000000
noncomputable section
def R7:List (Bool×List Sh):=[g_0]
def Aom (r:(Bool×Unit)):List RV×List RV:=([rv g_1 r],[])
def A1s:Av:=Au R7 (fun d=>(Mt d.1).val) Aom
theorem Ayv:Fn Tryz.prog 5 .plain A1s:=mkF [(26,.plain,A2k),(35,.plain,Aeq),(36,.plain,Ae3),(37,.plain,Ae4),(38,.plain,Abk),(39,.plain,Ayr),(40,.plain,I4),(41,.plain,Ald),(31,.plain,Aok),(42,.plain,Ae5)] ⟨A8e,Art,Asa,Asb,Apy,A6g,J9,Axb,Ayt,Asg,trivial⟩ Tryz.func5 0
end
end Go.Proofs.YtmhhajdeafijmaaGreat
