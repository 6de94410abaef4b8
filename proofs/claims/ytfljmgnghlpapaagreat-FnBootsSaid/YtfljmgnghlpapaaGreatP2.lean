/-
  That the functions of the seat answer what the terms of text W say; nothing is assumed.
-/
import Derived.Test.YtfljmgnghlpapaaGreatP1
namespace Go.Proofs.YtfljmgnghlpapaaGreat
open Go.RowKit
set_option linter.unusedVariables false
set_option maxRecDepth 100000
set_option maxHeartbeats 4000000
noncomputable section
def Qa:List (Bool×List Sh):=[g_0]
def Al9 (r:(Bool×Unit)):List RV×List RV:=([rv g_1 r],[])
def A1w:Ao:=Am Qa (fun d=>(Lv d.1).val) Al9
theorem Az6:Fn Tryz.prog 5 .plain A1w:=mkF [(6,.plain,Au4),(32,.view,Rg),(33,.plain,Aab),(34,.plain,Aac),(35,.view,Tn),(36,.plain,Aec),(23,.plain,Rm),(24,.plain,Up),(25,.plain,Hw),(37,.plain,Api),(18,.plain,Aqm),(38,.plain,Aed)] ⟨A0k,Agz,Aq2,Aq3,Ajx,Ato,Z9,Aea,Ia,A1q,Axo,Atx,trivial⟩ Tryz.func5 0
end
end Go.Proofs.YtfljmgnghlpapaaGreat
