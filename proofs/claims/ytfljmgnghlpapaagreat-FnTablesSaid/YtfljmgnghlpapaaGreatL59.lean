/-
  That the program and the reference answer alike, in plain terms, and that the laws answer true.
-/
import Derived.Test.YtfljmgnghlpapaaGreatL57
namespace Go.Proofs.YtfljmgnghlpapaaGreat
open Go.RowKit
set_option linter.unusedVariables false
set_option linter.unusedSimpArgs false
set_option maxRecDepth 100000
set_option maxHeartbeats 8000000
noncomputable section
theorem Tot.both {α:Type} {P Q:α→Prop} {o:Option α} (h:Tot P o) (k:Tot Q o):Tot (fun a=>P a∧Q a) o:=by
 obtain⟨a,rfl,p⟩:=h
 obtain⟨c,e,q⟩:=k
 cases e
 exact⟨a,rfl,p,q⟩
theorem Avf {i:Int} {cn sn:List YB} {c0:Int} {c1:List YB} {c2:Int} {c3:List YB} {c4 c5:Int} {c6:List YI} {c7:Int} {c8:List YB} {c9 c10:Int} {c11:List YI} {c12:Bool} {c13:Int} {c14:List YB} {p0 p1:Int} {p2:List Aj} {t la:Int}
  (h1:1≤i∧i≤9) (h2:cn.length=12) (h3:sn.length=12) (h4:H0 (c0,c1,c2,c3,c4,c5,c6,c7,c8,c9,c10,c11,c12,c13,c14,())=true) (h5:c0=1) (h6:D7 c1 sn=true) (h7:Cz (p0,p1,p2,())=true) (h8:0≤t∧t≤1000000) (h9:0≤la∧la≤1000000):
  C6 (i,cn,sn,c0,c1,c2,c3,c4,c5,c6,c7,c8,c9,c10,c11,c12,c13,c14,p0,p1,p2,t,la,false,())=true:=by
 unfold C6
 dsimp only[Ek,Dq,Rt,Ml,Do]
 rw[h4,h7,E8.2 h1,E8.2 h8,E8.2 h9,h6,h5,h2,h3]
 rfl
theorem Aia {s:Af} (h:C6 s=true) (hd:Do s=false):(1≤s.1∧s.1≤9)∧s.2.1.length=12∧s.2.2.1.length=12∧(0≤Rt s∧Rt s≤1000000)∧H0 (Ek s)=true∧s.2.2.2.1=1∧D7 s.2.2.2.2.1 s.2.2.1=true∧Cz (Dq s)=true∧(0≤Ml s∧Ml s≤1000000):=by
 unfold C6 at h
 rw[hd]at h
 simp only[cond_false,Bool.and_eq_true,E8,beq_iff_eq]at h
 obtain⟨h1,h2,h3,h4,h5,h6,h7,h8,h9⟩:=h
 exact⟨h1,by omega,by omega,h4,h5,h6,h7,h8,h9⟩
end
end Go.Proofs.YtfljmgnghlpapaaGreat
