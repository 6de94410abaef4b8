/-
  That the program and the reference answer alike, in plain terms, and that the laws answer true.
-/
import Derived.Test.YtfljmgnghlpapaaGreatL57
namespace Go.Proofs.YtfljmgnghlpapaaGreat
open Go.RowKit
set_option linter.unusedVariables false
set_option linter.unusedSimpArgs false
set_option maxRecDepth 100000
set_option maxHeartbeats 8000000
noncomputable section
theorem Tot.both {α:Type} {P Q:α→Prop} {o:Option α} (h:Tot P o) (k:Tot Q o):Tot (fun a=>P a∧Q a) o:=by
 obtain⟨a,rfl,p⟩:=h
 obtain⟨c,e,q⟩:=k
 cases e
 exact⟨a,rfl,p,q⟩
theorem Bbl {i:Int} {cn sn:List YB} {c0:Int} {c1:List YB} {c2:Int} {c3:List YB} {c4 c5:Int} {c6:List YI} {c7:Int} {c8:List YB} {c9 c10:Int} {c11:List YI} {c12:Bool} {c13:Int} {c14:List YB} {p0 p1:Int} {p2:List Ap} {t la:Int}
  (h1:1≤i∧i≤9) (h2:cn.length=12) (h3:sn.length=12) (h4:Km (c0,c1,c2,c3,c4,c5,c6,c7,c8,c9,c10,c11,c12,c13,c14,())=true) (h5:c0=1) (h6:Ds c1 sn=true) (h7:D7 (p0,p1,p2,())=true) (h8:0≤t∧t≤1000000) (h9:0≤la∧la≤1000000):
  Cs (i,cn,sn,c0,c1,c2,c3,c4,c5,c6,c7,c8,c9,c10,c11,c12,c13,c14,p0,p1,p2,t,la,false,())=true:=by
 unfold Cs
 dsimp only[Fx,Ew,X4,Qr,Bo]
 rw[h4,h7,Cu.2 h1,Cu.2 h8,Cu.2 h9,h6,h5,h2,h3]
 rfl
theorem Auf {s:Ad} (h:Cs s=true) (hd:Bo s=false):(1≤s.1∧s.1≤9)∧s.2.1.length=12∧s.2.2.1.length=12∧(0≤X4 s∧X4 s≤1000000)∧Km (Fx s)=true∧s.2.2.2.1=1∧Ds s.2.2.2.2.1 s.2.2.1=true∧D7 (Ew s)=true∧(0≤Qr s∧Qr s≤1000000):=by
 unfold Cs at h
 rw[hd]at h
 simp only[cond_false,Bool.and_eq_true,Cu,beq_iff_eq]at h
 obtain⟨h1,h2,h3,h4,h5,h6,h7,h8,h9⟩:=h
 exact⟨h1,by omega,by omega,h4,h5,h6,h7,h8,h9⟩
end
end Go.Proofs.YtfljmgnghlpapaaGreat
