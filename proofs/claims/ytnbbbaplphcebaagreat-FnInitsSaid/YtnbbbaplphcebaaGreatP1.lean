/-
  That the functions of the seat answer what the terms of text W say; nothing is assumed.
-/
import Derived.Test.YtnbbbaplphcebaaGreatP0
namespace Go.Proofs.YtnbbbaplphcebaaGreat
open Go.RowKit
set_option linter.unusedVariables false
set_option maxRecDepth 100000
set_option maxHeartbeats 4000000
noncomputable section
def Uj:List (Bool×List Sh):=[g_0]
def Ayo (r:(Bool×Unit)):List RV×List RV:=([rv g_1 r],[])
def Bf0:Au:=As Uj (fun d=>(Uk d.1).val) Ayo
theorem Bb9:Fq 4 Bf0:=mkF [Fz 6 Bg2,Fz 7 Alm,Fz 8 Al4,Fz 14 Aft,Fz 9 Afp,Fz 15 Aoi,Fz 16 Ayn] ⟨Boe,Ahy,A3f,Ar3,Ar0,Att,Bb8,trivial⟩ Tryz.func4 0
end
end Go.Proofs.YtnbbbaplphcebaaGreat
