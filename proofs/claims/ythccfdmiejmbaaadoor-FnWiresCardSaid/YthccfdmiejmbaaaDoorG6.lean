/-
  That the program and the reference answer alike, in plain terms, and that the laws answer true.
-/
import Derived.Test.YthccfdmiejmbaaaDoorG5
namespace Go.Proofs.YthccfdmiejmbaaaDoor
open Go.RowKit
set_option linter.unusedVariables false
set_option linter.unusedSimpArgs false
set_option maxRecDepth 100000
set_option maxHeartbeats 8000000
noncomputable section
theorem Ad6 {f:A5} (h:Bh f=true) (hk:f.1=3):inR f.2.1 1 9=true/\f.2.2.1.length=12/\f.2.2.2.1.length=12/\inR f.2.2.2.2.1 0 1000000=true/\f.2.2.2.2.2.1.length=16/\f.2.2.2.2.2.2.1.length=16:=by
 unfold Bh at h
 simp only[hk,show inR (3:Int) 4 8=false by decide,show((3:Int)==1)=false by decide,show((3:Int)==2)=false by decide,cond_false,Bool.and_eq_true,beq_iff_eq]at h
 obtain⟨h1,h2,h3,h4,h5,h6,h7,h8,h9,h10,h11⟩:=h
 exact⟨h7,by omega,by omega,h9,by omega,by omega⟩
theorem Aco {f:A5} (h:Bh f=true) (hk:f.1=1):inR f.2.1 1 9=true/\f.2.2.1.length=12:=by
 unfold Bh at h
 simp only[hk,show inR (1:Int) 4 8=false by decide,show((1:Int)==1)=true by decide,cond_false,cond_true,Bool.and_eq_true,beq_iff_eq]at h
 obtain⟨h1,h2,h3,h4,h5,h6,h7⟩:=h
 exact⟨h6,by omega⟩
end
end Go.Proofs.YthccfdmiejmbaaaDoor
