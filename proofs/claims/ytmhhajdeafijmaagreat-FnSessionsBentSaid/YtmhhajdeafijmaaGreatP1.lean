/-
  That the functions of the seat answer what the terms of text W say; nothing is assumed.
-/
import Derived.Test.YtmhhajdeafijmaaGreatP0
namespace Go.Proofs.YtmhhajdeafijmaaGreat
open Go.RowKit
set_option linter.unusedVariables false
set_option maxRecDepth 100000
set_option maxHeartbeats 4000000
noncomputable section
def Ic:List (Bool×List Sh):=[g_0]
def S9 (r:(Bool×Unit)):List RV×List RV:=([rv g_1 r],[])
def Ajo:As:=Ar Ic (fun d=>(F6 d.1).val) S9
theorem Aho:Fn Tryz.prog 8 .plain Ajo:=mkF [(26,.plain,A02),(51,.view,Wr),(28,.plain,Ajg),(52,.plain,Aji),(29,.plain,Ms),(53,.plain,Uy),(32,.plain,Ajl),(54,.plain,Ahg),(55,.plain,Aw1),(56,.plain,Amf),(57,.plain,Ajn),(34,.plain,Rk),(58,.plain,Aqe)] ⟨A6x,All,Avf,Avh,Nl,Aax,Avk,Asi,A4r,Aw2,Avm,S8,Az9,trivial⟩ Tryz.func8 0
end
end Go.Proofs.YtmhhajdeafijmaaGreat
