/-
  That the program and the reference answer alike, in plain terms, and that the laws answer true.
-/
import Derived.Test.YtjlblagmjlmglaaGreatL43
namespace Go.Proofs.YtjlblagmjlmglaaGreat
open Go.RowKit
set_option linter.unusedVariables false
set_option linter.unusedSimpArgs false
set_option maxRecDepth 100000
set_option maxHeartbeats 16000000
noncomputable section
theorem A5m (f:Aa) (l:List YB):Ar (f.1,f.2.1,l,f.2.2.2.1,f.2.2.2.2.1,f.2.2.2.2.2.1,f.2.2.2.2.2.2.1,f.2.2.2.2.2.2.2.1,f.2.2.2.2.2.2.2.2.1,f.2.2.2.2.2.2.2.2.2.1,f.2.2.2.2.2.2.2.2.2.2.1,())≤Ar f+l.length:=by simp only[Ar];omega
theorem Bbh (c:Ab):c.2.2.2.2.2.1.length≤An c:=by simp only[An];omega
theorem A3h (c:Ab):c.2.2.2.2.2.2.2.2.2.2.2.2.2.2.2.2.2.2.1.length≤An c:=by simp only[An];omega
theorem Ah8 (c:Ab) (x:Af) (t1:Bool) (t2 t3 t4:Int) (r1:Bool) (r2 r3 r4 la:Int):An (c.1,c.2.1,c.2.2.1,c.2.2.2.1,c.2.2.2.2.1,c.2.2.2.2.2.1,c.2.2.2.2.2.2.1,c.2.2.2.2.2.2.2.1,c.2.2.2.2.2.2.2.2.1,c.2.2.2.2.2.2.2.2.2.1,c.2.2.2.2.2.2.2.2.2.2.1,c.2.2.2.2.2.2.2.2.2.2.2.1,c.2.2.2.2.2.2.2.2.2.2.2.2.1,c.2.2.2.2.2.2.2.2.2.2.2.2.2.1,c.2.2.2.2.2.2.2.2.2.2.2.2.2.2.1,c.2.2.2.2.2.2.2.2.2.2.2.2.2.2.2.1,c.2.2.2.2.2.2.2.2.2.2.2.2.2.2.2.2.1,x.1,x.2.1,x.2.2.1,x.2.2.2.1,x.2.2.2.2.1,x.2.2.2.2.2.1,x.2.2.2.2.2.2.1,x.2.2.2.2.2.2.2.1,x.2.2.2.2.2.2.2.2.1,x.2.2.2.2.2.2.2.2.2.1,x.2.2.2.2.2.2.2.2.2.2.1,x.2.2.2.2.2.2.2.2.2.2.2.1,x.2.2.2.2.2.2.2.2.2.2.2.2.1,x.2.2.2.2.2.2.2.2.2.2.2.2.2.1,x.2.2.2.2.2.2.2.2.2.2.2.2.2.2.1,t1,t2,t3,t4,r1,r2,r3,r4,la,())≤An c+A0 x:=by simp only[An,A0];omega
theorem A8a (N:Nat) (a0:Ab) (a1:YI) (a2:YBs) (hn:An a0≤N) (hl:a2.1.length≤1000∧N≤100000) (hw:wfB (Cw a0).2.1):Tot (fun r=>An r.1≤N+1000∧wfB (Cw r.1).2.1) (Ge a0 a1 a2):=
 (A9y a0 a1 a2 zq0 hl.1).mono fun r h=>⟨by have:=h.1;omega,h.2 hw⟩
theorem A8b (N:Nat) (k:YBs) (r:YI) (sn:YBs) (ep seq kind:YI) (p:YBs) (h1:sn.1.length≤60000000) (h2:p.1.length≤100) (hw:wfB sn.1) (hN:sn.1.length≤N):Tot (fun q=>Ar q.1≤N+200∧wfB q.1.2.2.2.1) (La k r sn ep seq kind p):=
 (A9w k r sn ep seq kind p h1 zq0).mono fun r h=>⟨by have:=h.1;omega,h.2 hw⟩
theorem Aez (N1 N2:Nat) (c:Ab) (n:YI) (f:Aa) (h:An c≤N1) (h2:Ar f≤N2) (b1:N1≤8388608) (b2:N2≤8388608) (w1:wfB f.2.2.2.1) (w2:wfB (Cw c).2.1):Tot (fun r=>An r.1≤N1+N2+400∧wfB (Cw r.1).2.1) (Ix c n f):=by
 obtain⟨r,fs,ns,_,e,p⟩:=Axr c n f zq0 zq0 w1 w2
 rw[e]
 exact Ak ⟨by have:=p.1;dsimp only;omega,p.2.2.2.2.2.2.2.2.2.2.2 w1 w2⟩
end
end Go.Proofs.YtjlblagmjlmglaaGreat
