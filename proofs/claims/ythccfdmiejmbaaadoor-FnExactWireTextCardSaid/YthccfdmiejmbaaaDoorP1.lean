/-
  That the functions of the seat answer what the terms of text W say; nothing is assumed.
-/
import Derived.Test.YthccfdmiejmbaaaDoorP0
namespace Go.Proofs.YthccfdmiejmbaaaDoor
open Go.RowKit
set_option linter.unusedVariables false
set_option maxRecDepth 100000
set_option maxHeartbeats 4000000
noncomputable section
def C8:List (Bool×List Sh):=[g_2]
def Ha (r:(Bool×Unit)):List RV×List RV:=([rv g_4 r],[])
def Ml:A7:=A6 C8 (fun d=>(Ck d.1).val) Ha
theorem La:Fq 3 Ml:=mkF [Fz 5 P8,Fz 7 Qa,Fz 6 Mt,Fz 8 M5,Fz 9 Qo] ⟨Vk,Vm,Tc,Th,Vv,trivial⟩ Tryd.func3 0
end
end Go.Proofs.YthccfdmiejmbaaaDoor
