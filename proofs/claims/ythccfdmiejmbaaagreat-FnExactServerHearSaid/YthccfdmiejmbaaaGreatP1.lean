/-
  That the functions of the seat answer what the terms of text W say; nothing is assumed.
-/
import Derived.Test.YthccfdmiejmbaaaGreatP0
namespace Go.Proofs.YthccfdmiejmbaaaGreat
open Go.RowKit
set_option linter.unusedVariables false
set_option maxRecDepth 100000
set_option maxHeartbeats 4000000
noncomputable section
def J0:List (Bool×List Sh):=[Bq5,g_1,Ee,g_0]
def Zb (r:(Bool×Unit)):List RV×List RV:=([rv Bq r],[])
def Aq1:An:=Ao J0 (fun d=>(Ho d.1 d.2.1 d.2.2.1 d.2.2.2.1).val) Zb
theorem Aoo:Fq 4 Aq1:=mkF [Fz 14 Ay0,Fz 15 Ay6,Fz 16 Z0,Fz 17 I3,(8,(.vgive [2,0,0,2]),Aqd),Fz 7 Aqv,Fz 18 A09,Fz 19 Ba3,Fz 20 A5i,Fz 21 Gy,(22,(.lend [1]),Aqy),(23,(.lend [1]),Hd),(24,(.lend [1]),A1d),(25,(.lend [1]),Ayj),Fz 26 Aq0,Fz 27 A1g,Fz 28 Aym] ⟨Bhw,Bhz,Adn,Jc,A95,Bax,Biw,Box,Bk2,Gz,Ba6,Hn,Biz,Bdv,Ba8,Bi2,Bdy,trivial⟩ Tryz.func4 0
end
end Go.Proofs.YthccfdmiejmbaaaGreat
