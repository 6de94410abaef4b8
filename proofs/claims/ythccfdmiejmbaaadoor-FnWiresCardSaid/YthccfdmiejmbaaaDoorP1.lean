/-
  That the functions of the seat answer what the terms of text W say; nothing is assumed.
-/
import Derived.Test.YthccfdmiejmbaaaDoorP0
namespace Go.Proofs.YthccfdmiejmbaaaDoor
open Go.RowKit
set_option linter.unusedVariables false
set_option maxRecDepth 100000
set_option maxHeartbeats 4000000
noncomputable section
def Gz:List (Bool×List Sh):=[g_0]
def Rz (r:(Bool×Unit)):List RV×List RV:=([rv g_1 r],[])
def Aaz:A3:=Az Gz (fun d=>(G3 d.1).val) Rz
theorem X7:Fq 4 Aaz:=Hg [Fz 10 Abf,(11,.view,Rq),Fz 12 Abh,(13,.view,Lf),Fz 14 Rs,Fz 15 So,Fz 16 Ma,Fz 17 Rv,Fz 18 J6,Fz 19 J7,Fz 20 Pe,Fz 8 P8,Fz 6 Qe] ⟨Ae9,Px,Afa,Sm,Xz,Wk,P0,X0,L9,Md,U9,Xk,Xo,trivial⟩ ⟨[(3,.v false [(.sl 31 h_2,.rd)]),vX 4,vS 5 (sW (.sl 31 h_2) 10000000),(6,.v false [(.sl 31 h_2,.rd)]),vX 7,vX 8,vS 9 (sW (.sl 31 h_2) 10000001),vI 10,vI 11],[(4,[sI,sI,sI,sI,(.sl 5 [.int .u8],.rd)]),(7,[sI,sI]),(8,[sI,sI])],[10000000,10000001]⟩ 10000000 [eB,(.exit 0,⟨[(3,.v false [(.sl 31 h_2,.rd)]),vX 4,vS 5 (sW (.sl 31 h_2) 10000000),vS 9 (sW (.sl 31 h_2) 10000001),vI 10],[(4,[sI,sI,sI,sI,(.sl 5 [.int .u8],.rd)])],[10000000,10000001]⟩)] 9 Dx Tryd.func4 0
end
end Go.Proofs.YthccfdmiejmbaaaDoor
