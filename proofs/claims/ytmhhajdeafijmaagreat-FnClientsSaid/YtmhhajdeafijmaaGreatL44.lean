/-
  That the program and the reference answer alike, in plain terms, and that the laws answer true.
-/
import Derived.Test.YtmhhajdeafijmaaGreatL43
namespace Go.Proofs.YtmhhajdeafijmaaGreat
open Go.RowKit
set_option linter.unusedVariables false
set_option linter.unusedSimpArgs false
set_option maxRecDepth 100000
set_option maxHeartbeats 16000000
noncomputable section
theorem W0 (f:Ab) (l:List YB):Ar (f.1,f.2.1,l,f.2.2.2.1,f.2.2.2.2.1,f.2.2.2.2.2.1,f.2.2.2.2.2.2.1,f.2.2.2.2.2.2.2.1,f.2.2.2.2.2.2.2.2.1,f.2.2.2.2.2.2.2.2.2.1,f.2.2.2.2.2.2.2.2.2.2.1,())≤Ar f+l.length:=by simp only[Ar];omega
theorem Ang (c:Ac):c.2.2.2.2.2.1.length≤Ao c:=by simp only[Ao];omega
theorem A3s (c:Ac):c.2.2.2.2.2.2.2.2.2.2.2.2.2.2.2.2.2.2.1.length≤Ao c:=by simp only[Ao];omega
theorem Ait (c:Ac) (x:Ai) (t1:Bool) (t2 t3 t4:Int) (r1:Bool) (r2 r3 r4 la:Int):Ao (c.1,c.2.1,c.2.2.1,c.2.2.2.1,c.2.2.2.2.1,c.2.2.2.2.2.1,c.2.2.2.2.2.2.1,c.2.2.2.2.2.2.2.1,c.2.2.2.2.2.2.2.2.1,c.2.2.2.2.2.2.2.2.2.1,c.2.2.2.2.2.2.2.2.2.2.1,c.2.2.2.2.2.2.2.2.2.2.2.1,c.2.2.2.2.2.2.2.2.2.2.2.2.1,c.2.2.2.2.2.2.2.2.2.2.2.2.2.1,c.2.2.2.2.2.2.2.2.2.2.2.2.2.2.1,c.2.2.2.2.2.2.2.2.2.2.2.2.2.2.2.1,c.2.2.2.2.2.2.2.2.2.2.2.2.2.2.2.2.1,x.1,x.2.1,x.2.2.1,x.2.2.2.1,x.2.2.2.2.1,x.2.2.2.2.2.1,x.2.2.2.2.2.2.1,x.2.2.2.2.2.2.2.1,x.2.2.2.2.2.2.2.2.1,x.2.2.2.2.2.2.2.2.2.1,x.2.2.2.2.2.2.2.2.2.2.1,x.2.2.2.2.2.2.2.2.2.2.2.1,x.2.2.2.2.2.2.2.2.2.2.2.2.1,x.2.2.2.2.2.2.2.2.2.2.2.2.2.1,x.2.2.2.2.2.2.2.2.2.2.2.2.2.2.1,t1,t2,t3,t4,r1,r2,r3,r4,la,())≤Ao c+A0 x:=by simp only[Ao,A0];omega
theorem A8g (N:Nat) (a0:Ac) (a1:YI) (a2:YBs) (hn:Ao a0≤N) (hl:a2.1.length≤1000∧N≤100000) (hw:wfB (C0 a0).2.1):Tot (fun r=>Ao r.1≤N+1000∧wfB (C0 r.1).2.1) (Afp a0 a1 a2):=
 (A9z a0 a1 a2 zq0 hl.1).mono fun r h=>⟨by have:=h.1;omega,h.2 hw⟩
theorem A8h (N:Nat) (k:YBs) (r:YI) (sn:YBs) (ep seq kind:YI) (p:YBs) (h1:sn.1.length≤60000000) (h2:p.1.length≤100) (hw:wfB sn.1) (hN:sn.1.length≤N):Tot (fun q=>Ar q.1≤N+200∧wfB q.1.2.2.2.1) (Bl k r sn ep seq kind p):=
 (Bq k r sn ep seq kind p h1 zq0).mono fun r h=>⟨by have:=h.1;omega,h.2 hw⟩
theorem Ae4 (N1 N2:Nat) (c:Ac) (n:YI) (f:Ab) (h:Ao c≤N1) (h2:Ar f≤N2) (b1:N1≤8388608) (b2:N2≤8388608) (w1:wfB f.2.2.2.1) (w2:wfB (C0 c).2.1):Tot (fun r=>Ao r.1≤N1+N2+400∧wfB (C0 r.1).2.1) (Ik c n f):=by
 obtain⟨r,fs,ns,_,e,p⟩:=Ajv c n f zq0 zq0 w1 w2
 rw[e]
 exact Ag ⟨by have:=p.1;dsimp only;omega,p.2.2.2.2.2.2.2.2.2.2.2 w1 w2⟩
theorem A5v {b:List YB} {a0:Au} (a1:Ac) (hc:Bu b a0):Tot (fun r=>Bu b r.2) (Agl a0 a1):=by
 unfold Agl Agk
 simp only[Aj,Al,Af,Aq,List.length_nil,List.nil_append,Nat.zero_add]
 refine Ae (Az6 _ hc zq3) (fun r1 hr1c=>?_)
 exact Ag (Aa hc hr1c)
end
end Go.Proofs.YtmhhajdeafijmaaGreat
