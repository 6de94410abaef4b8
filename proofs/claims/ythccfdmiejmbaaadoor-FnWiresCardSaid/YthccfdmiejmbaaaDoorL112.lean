/-
  That the program and the reference answer alike, in plain terms, and that the laws answer true.
-/
import Derived.Test.YthccfdmiejmbaaaDoorL111
namespace Go.Proofs.YthccfdmiejmbaaaDoor
open Go.RowKit
set_option linter.unusedVariables false
set_option linter.unusedSimpArgs false
set_option maxRecDepth 100000
set_option maxHeartbeats 8000000
noncomputable section
theorem Ahr:(Ac [62]).size=1:=rfl
theorem Ahs:(Ac [32]).size=1:=rfl
theorem Ain:(Ac [110,111,105,115,101]).size=5:=rfl
theorem Aa3 (w:Ag) (hw:wfB w.2.2.2.2.1) (hl:w.2.2.2.2.1.length<=4000000): ∃r,Kz w=some r/\K1 w=some r:=by
 unfold Kz K1 Kt Kw
 simp only[Am,Ar,Ad,Aw,Su,Sv,As]
 cases Ej w with
 |false=>exact⟨_,rfl,rfl⟩
 |true=>
  have hn:=Q7 (w.2.2.2.2.1.length:Int) zq1 zq1
  have z:=Jq (w.2.2.2.2.1.length:Int) zq1 zq1
  have z1:=Zh (w.1,w.2.1,())
  have z2:=Zh (w.2.2.1,w.2.2.2.1,())
  simp only[Bool.not_true,A9,Acp _ (show w.2.2.2.2.1.length<=4294967296 by omega),Acr _ hw hl,As,Acu,Acs,Zi,hn,Aa2]
  cases (gI w.2.2.2.2.1).2.1 with
  |false=>
   simp only[A9]
   simp (disch:=(simp only[ByteArray.size_append,Ahr,Ahs,Ain];omega)) only[Al,Au]
   exact⟨_,rfl,rfl⟩
  |true=>
   obtain⟨k,hk,hks⟩:=Zg ((gI w.2.2.2.2.1).1.1,())
   simp only[Bo,hk,As]
   simp (disch:=(simp only[ByteArray.size_append,Ahr,Ahs];omega)) only[Al,Au]
   exact⟨_,rfl,rfl⟩
end
end Go.Proofs.YthccfdmiejmbaaaDoor
