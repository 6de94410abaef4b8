/-
  That the program and the reference answer alike, in plain terms, and that the laws answer true.
-/
import Derived.Test.YthccfdmiejmbaaaDoorG1
namespace Go.Proofs.YthccfdmiejmbaaaDoor
open Go.RowKit
set_option linter.unusedVariables false
set_option linter.unusedSimpArgs false
set_option maxRecDepth 100000
set_option maxHeartbeats 8000000
noncomputable section
theorem Aci {k n:Int} (h:Ez k n=true):n<=40:=by
 unfold Ez at h
 cases h4:(k==4)<;>cases h5:(k==5)<;>cases h6:(k==6)<;>simp[h4,h5,h6]at h<;>omega
theorem Xb {f:A0} (h:A8 f=true) (hs:inR f.1 4 8=true):f.2.2.2.1.length=12/\(0<=f.2.2.2.2.2.2.2.1/\f.2.2.2.2.2.2.2.1<=4294967295)/\(0<=f.2.2.2.2.2.2.2.2.1/\f.2.2.2.2.2.2.2.2.1<=281474976710655)/\Ez f.1 (f.2.2.2.2.2.2.2.2.2.1.length:Int)=true/\f.2.2.2.2.2.2.2.2.2.1.length<=40:=by
 unfold A8 at h
 rw[hs]at h
 simp only[cond_true,Bool.and_eq_true,Ig,beq_iff_eq]at h
 have hb:=h.2.2.2.2.2.2.2.2.1
 have:=Aci hb
 exact⟨by omega,h.2.2.2.2.2.2.1,h.2.2.2.2.2.2.2.1,hb,by omega⟩
theorem T9 {f:A0} (h:A8 f=true) (hk:f.1=2):f.2.2.1.length=12/\f.2.2.2.1.length=12/\(0<=f.2.2.2.2.1/\f.2.2.2.2.1<=1000000)/\f.2.2.2.2.2.1.length=16/\f.2.1=0/\f.2.2.2.2.2.2.1.length=0/\f.2.2.2.2.2.2.2.1=0/\f.2.2.2.2.2.2.2.2.1=0/\f.2.2.2.2.2.2.2.2.2.1.length=0/\f.2.2.2.2.2.2.2.2.2.2.1.length=0:=by
 unfold A8 at h
 rw[hk]at h
 simp only[show inR 2 4 8=false by decide,cond_false,show((2:Int)==1)=false by decide,show((2:Int)==2)=true by decide,cond_true,Bool.and_eq_true,beq_iff_eq,Ig]at h
 omega
end
end Go.Proofs.YthccfdmiejmbaaaDoor
