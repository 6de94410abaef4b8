/-
  That the program and the reference answer alike, in plain terms, and that the laws answer true.
-/
import Derived.Test.YtjlblagmjlmglaaGreatL18
namespace Go.Proofs.YtjlblagmjlmglaaGreat
open Go.RowKit
set_option linter.unusedVariables false
set_option linter.unusedSimpArgs false
set_option maxRecDepth 100000
set_option maxHeartbeats 4000000
noncomputable section
def wfB (l:List YB):Prop:=∀(i:Nat) (x:YB),l[i]? =some x→0≤x.1∧x.1≤255
theorem Azm {a:YB} {l:List YB} (h:wfB (a::l)):(0≤a.1∧a.1≤255)∧wfB l:=⟨h 0 a rfl,fun i x hx=>h (i+1) x (by simpa using hx)⟩
theorem Bcf {n m:Int} (hn:0≤n∧n≤255) (hm:0≤m∧m≤255) (h:UInt8.ofNat n.toNat=UInt8.ofNat m.toNat):n=m:=by
 have:=congrArg UInt8.toNat h
 simp only[UInt8.toNat_ofNat']at this
 omega
theorem A3a: ∀ {a b:List YB},wfB a→wfB b→(a.map fun d=>UInt8.ofNat (Int.toNat d.1))=(b.map fun d=>UInt8.ofNat (Int.toNat d.1))→a=b
 |[],[],_,_,_=>rfl
 |x::a,y::b,ha,hb,h=>by
  simp only[List.map_cons,List.cons.injEq]at h
  obtain⟨x1,x2⟩:=Azm ha
  obtain⟨y1,y2⟩:=Azm hb
  have e:=Bcf x1 y1 h.1
  have e2:=A3a x2 y2 h.2
  obtain⟨n,⟨⟩⟩:=x
  obtain⟨m,⟨⟩⟩:=y
  simp only at e
  rw[e,e2]
 |[],_::_,_,_,h=>by simp at h
 |_::_,[],_,_,h=>by simp at h
theorem Azn {a b:List YB} (ha:wfB a) (hb:wfB b) (h:Dv a b=true):a=b:=by
 unfold Dv at h
 have h1:Kj a=Kj b:=by simpa using h
 unfold Kj at h1
 simp only[ByteArray.mk.injEq]at h1
 exact A3a ha hb (by simpa using h1)
theorem A7p {k:List YB} {r:Int} {sn:List YB} {ep seq kind:Int} {p:List YB} (h:H4 k r sn ep seq kind p=true):(D6 k r sn ep seq kind p).1.2.2.2.1=sn:=by
 unfold D6
 rw[h];rfl
end
end Go.Proofs.YtjlblagmjlmglaaGreat
