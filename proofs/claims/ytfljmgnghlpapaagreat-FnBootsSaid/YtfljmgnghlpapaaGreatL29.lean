/-
  That the program and the reference answer alike, in plain terms, and that the laws answer true.
-/
import Derived.Test.YtfljmgnghlpapaaGreatL28
namespace Go.Proofs.YtfljmgnghlpapaaGreat
open Go.RowKit
set_option linter.unusedVariables false
set_option linter.unusedSimpArgs false
set_option maxRecDepth 100000
set_option maxHeartbeats 4000000
noncomputable section
theorem V3 {l:List YB}:wfB l↔ ∀x∈l,0≤x.1∧x.1≤255:=by
 constructor
 ·intro h x hx
  obtain⟨i,hi⟩:=List.getElem?_of_mem hx
  exact h i x hi
 ·intro h i x hx
  exact h x (List.mem_of_getElem? hx)
theorem Fr:wfB []:=V3.2 zq3
theorem Bdo {a:List YB} {n:Nat} (ha:wfB a):wfB (a.take n):=V3.2 fun x hx=>V3.1 ha x (List.mem_of_mem_take hx)
theorem u8_in (n:Int):0≤IntKind.u8.wrap n∧IntKind.u8.wrap n≤255:=by rw[IntKind.wrap_u8];omega
theorem Bdp (n:Int) (k i:Nat):wfB (Eu n k i):=V3.2 fun x hx=>by
 unfold Eu at hx
 obtain⟨j,_,rfl⟩:=List.mem_map.1 hx
 exact u8_in _
theorem Bdq (l:List YI):wfB (Oz l):=V3.2 fun x hx=>by
 unfold Oz at hx
 obtain⟨a,_,h⟩:=List.mem_flatMap.1 hx
 exact V3.1 (Bdp _ _ _) x h
theorem Bfn (b:List YB):wfB (sha b):=by
 unfold sha
 split
 ·exact Bdq _
 ·exact Fr
theorem Bdr (k m:List YB):wfB (Fd k m):=by
 unfold Fd
 split
 ·exact Fr
 ·split
  ·exact Fr
  ·exact Bfn _
theorem Bds (k m:List YB):wfB (Ade k m):=Bdo (Bdr _ _)
end
end Go.Proofs.YtfljmgnghlpapaaGreat
