/-
  That the program and the reference answer alike, in plain terms, and that the laws answer true.
-/
import Derived.Test.YtmhhajdeafijmaaL28
namespace Go.Proofs.Ytmhhajdeafijmaa
open Go.RowKit
set_option linter.unusedVariables false
set_option linter.unusedSimpArgs false
set_option maxRecDepth 100000
set_option maxHeartbeats 4000000
noncomputable section
theorem Aj5 {l:List YB}:wfB l↔ ∀x∈l,0≤x.1∧x.1≤255:=by
 constructor
 ·intro h x hx
  obtain⟨i,hi⟩:=List.getElem?_of_mem hx
  exact h i x hi
 ·intro h i x hx
  exact h x (List.mem_of_getElem? hx)
theorem Aj6:wfB []:=Aj5.2 zq1
theorem u8_in (n:Int):0≤IntKind.u8.wrap n∧IntKind.u8.wrap n≤255:=by rw[IntKind.wrap_u8];omega
theorem Ab2 (sn:List YB) (ep seq kind:Int) (p t:List YB) (hk:inR kind 4 8=true) (ht:t.length=16):Ck (kind,0,[],sn,0,[],[],ep,seq,p,t,())=(((sn.length:Int)==12) && (inR ep 0 4294967295 && (inR seq 0 281474976710655 && Er kind (p.length:Int)))):=by
 unfold Ck
 simp only[hk,cond_true]
 simp[ht]
theorem Aen {k n:Int} (h:Er k n=true):n≤40:=by
 unfold Er at h
 cases h4:(k==4)<;>cases h5:(k==5)<;>cases h6:(k==6)<;>simp[h4,h5,h6]at h<;>omega
theorem Xm {k n p:List YB} (h1:p.length≤200) (h2:n.length≤100) (h3:k.length≤1048576):(mix k n p).length=p.length:=by
 unfold mix
 rw[if_pos ⟨h1,h2,h3⟩,Ll]
theorem Aeo {k m:List YB} (h1:k.length≤1048576) (h2:m.length≤1048512):(Fd k m).length=16:=by
 unfold Fd
 rw[List.length_take,Ael k m h1 h2];rfl
theorem Xn {k:List YB} {r:Int} {sn:List YB} {ep seq kind:Int} {p:List YB} (h:Fk k r sn ep seq kind p=true):Ck (Av k r sn ep seq kind p).1=true:=by
 have h':=h
 unfold Fk C7 at h'
 simp only[Bool.and_eq_true]at h'
 obtain⟨a1,⟨a2,a3,a4,a5⟩,a6,a7⟩:=h'
 have hk:k.length=32:=by simp at a1;omega
 have hsn:sn.length=12:=by simp at a3;omega
 have hp:=Aen a7
 have hl:(A9 r sn ep seq).length≤23:=by rw[Gd];cases C7 r sn ep seq<;>simp
 have hm:(mix k (A9 r sn ep seq) p).length=p.length:=Xm zq0 zq0 zq0
 have hti:=Ni r (kind,0,[],sn,0,[],[],ep,seq,mix k (A9 r sn ep seq) p,Dy,())
 have ht:(Fd k (A4 r (kind,0,[],sn,0,[],[],ep,seq,mix k (A9 r sn ep seq) p,Dy,()))).length=16:=by
  refine Aeo zq0 ?_
  refine Nat.le_trans hti ?_
  simp only[Bo,List.length_nil,hsn,hm,Dy,List.length_replicate];omega
 unfold Av
 rw[h]
 simp only[cond_true]
 rw[Ab2 _ _ _ _ _ _ a6 ht,hm,a3,a4,a5,a7];rfl
end
end Go.Proofs.Ytmhhajdeafijmaa
