/-
  That the program and the reference answer alike, in plain terms, and that the laws answer true.
-/
import Derived.Test.YthccfdmiejmbaaaDoorL111
namespace Go.Proofs.YthccfdmiejmbaaaDoor
open Go.RowKit
set_option linter.unusedVariables false
set_option linter.unusedSimpArgs false
set_option maxRecDepth 100000
set_option maxHeartbeats 8000000
noncomputable section
theorem Adc:(Ac [62]).size=1:=rfl
theorem Ade:(Ac [32]).size=1:=rfl
theorem Ad7:(Ac [110,111,105,115,101]).size=5:=rfl
theorem Vz (w:Br) (hw:wfB w.2.2.2.2.1) (hl:w.2.2.2.2.1.length<=4000000): ∃r,I1 w=some r/\Iy w=some r:=by
 unfold I1 Iy Iw Ir
 simp only[Ao,Aw,Ah,A5,Aau,Aav,Ap]
 cases M9 w with
 |false=>exact⟨_,rfl,rfl⟩
 |true=>
  have hn:=Nz (w.2.2.2.2.1.length:Int) zq0 zq0
  have z:=Hv (w.2.2.2.2.1.length:Int) zq0 zq0
  have z1:=Ub (w.1,w.2.1,())
  have z2:=Ub (w.2.2.1,w.2.2.2.1,())
  simp only[Bool.not_true,Be,Xf _ (show w.2.2.2.2.1.length<=4294967296 by omega),Xh _ hw hl,Ap,Xj,Xi,Uc,hn,Vy]
  cases (gI w.2.2.2.2.1).2.1 with
  |false=>
   simp only[Be]
   simp (disch:=(simp only[ByteArray.size_append,Adc,Ade,Ad7];omega)) only[Aj,An]
   exact⟨_,rfl,rfl⟩
  |true=>
   obtain⟨k,hk,hks⟩:=Ua ((gI w.2.2.2.2.1).1.1,())
   simp only[Bu,hk,Ap]
   simp (disch:=(simp only[ByteArray.size_append,Adc,Ade];omega)) only[Aj,An]
   exact⟨_,rfl,rfl⟩
theorem Ud (w:Br) (hlo:Ie w) (hf:Ds [.int .i64,.int .i64,.int .i64,.int .i64,.sl 5 [.int .u8]] w):Hb w=some (true,()):=by
 have hw:wfB w.2.2.2.2.1:=by
  simp only[Ds]at hf
  exact Ada hf.2.2.2.2.1
 unfold Hb Ck
 simp only[Ao,Aw,Ah,A5]
 rw[Aca w _ zq0 zq0 hlo,Ap]
 by_cases h:szR (Cp w) 1048576<0
 .rw[Aj h,Bu]
 .rw[De h,Be]
  have hn:Cp w<=1048576:=by
   unfold szR at h
   split at h<;>omega
  have hl:w.2.2.2.2.1.length<=1048576:=hn
  obtain⟨r,h1,h2⟩:=Vz w hw zq0
  simp only[Acc w zq0,Ap,h1,h2,Acd w zq0]
  simp only[decide_true,Bool.not_true,Be]
end
end Go.Proofs.YthccfdmiejmbaaaDoor
