/-
  That the program and the reference answer alike, in plain terms, and that the laws answer true.
-/
import Derived.Test.YtfljmgnghlpapaaGreatL49
namespace Go.Proofs.YtfljmgnghlpapaaGreat
open Go.RowKit
set_option linter.unusedVariables false
set_option linter.unusedSimpArgs false
set_option maxRecDepth 100000
set_option maxHeartbeats 8000000
noncomputable section
def SP (N:Nat) (s:Af):Prop:=Az s≤N∧wfB s.2.2.1∧wfB (Ek s).2.1
theorem Gl (s:Af):Az s=s.2.1.length+s.2.2.1.length+Bf (Ek s)+Av (Dq s):=by
 simp only[Az,Bf,Ek,Av,Dq];omega
theorem Jn {N A B C D:Nat} {i:Int} {cn sn:List YB} {c0:Int} {c1:List YB} {c2:Int} {c3:List YB} {c4 c5:Int} {c6:List YI} {c7:Int} {c8:List YB} {c9 c10:Int} {c11:List YI} {c12:Bool} {c13:Int} {c14:List YB} {p0 p1:Int} {p2:List Aj} {t la:Int} {dd:Bool}
  (h1:cn.length≤A) (h2:sn.length≤B) (h3:Bf (c0,c1,c2,c3,c4,c5,c6,c7,c8,c9,c10,c11,c12,c13,c14,())≤C) (h4:Av (p0,p1,p2,())≤D) (w1:wfB sn) (w2:wfB c1) (h:A+B+C+D≤N):
  SP N (i,cn,sn,c0,c1,c2,c3,c4,c5,c6,c7,c8,c9,c10,c11,c12,c13,c14,p0,p1,p2,t,la,dd,()):=by
 refine⟨?_,w1,w2⟩
 rw[Gl]
 have e3:Bf (Ek ((i,cn,sn,c0,c1,c2,c3,c4,c5,c6,c7,c8,c9,c10,c11,c12,c13,c14,p0,p1,p2,t,la,dd,()):Af))≤C:=h3
 have e4:Av (Dq ((i,cn,sn,c0,c1,c2,c3,c4,c5,c6,c7,c8,c9,c10,c11,c12,c13,c14,p0,p1,p2,t,la,dd,()):Af))≤D:=h4
 dsimp only
 omega
theorem Zb {N:Nat} {s:Af} (h:SP N s):s.2.1.length≤N∧s.2.2.1.length≤N∧Bf (Ek s)≤N∧Av (Dq s)≤N:=by
 have:=Gl s
 have:=h.1
 omega
theorem Acy (a:Da):Tot (fun r=>Av r≤0) (Ri a):=Ae (by simp[Av,C4])
theorem Avd (p:A4) (n:YI) (a:Da) (d:YBs) (h:Av p≤100000):Tot (fun r=>Av r.1≤Av p+50) (S3 p n a d):=by
 obtain⟨p',b,_,h2,_,h4,_⟩:=Aww p n a d zq0
 rw[h2];exact Ae h4
theorem Va {b:List YB} {a0:Ap} (hc:Bw b a0):Tot (fun r=>Av r.1≤250∧Bw b r.2) (J6 a0):=by
 unfold J6 Ub
 simp only[Ah,Ai,Ab,Am]
 refine Ag (Ba _ hc zq3) (fun r1 ⟨_,h1c⟩=>?_)
 refine Ag (X9 _) (fun r2 _=>?_)
 refine Ag (Acy _) (fun r3 h3=>?_)
 refine Ag (Ba _ (Ad hc h1c) zq3) (fun r4 ⟨⟨h4,h4b⟩,h4c⟩=>?_)
 refine Ag (Ba _ (Ad hc h4c) zq3) (fun r5 ⟨⟨h5,h5b⟩,h5c⟩=>?_)
 dsimp only at h4b h5b
 refine Ag (Q:=fun o:(List YB)×Int×Int×Int×Int×(List Aj)×Int×Int×(List Aj)×Unit=>Av (o.2.2.2.2.2.2.1,o.2.2.2.2.2.2.2.1,o.2.2.2.2.2.2.2.2.1,())≤250∧Bw b (o.1,o.2.1,o.2.2.1,())) ?_ (fun o ho=>Ae ho)
 refine Mn (fun j d=>d.2.1=r5.1.1-(j:Int)∧Av (d.2.2.2.2.2.2.2.2.1,d.2.2.2.2.2.2.2.2.2.1,d.2.2.2.2.2.2.2.2.2.2.1,())≤50*j∧Bw b (d.2.2.1,d.2.2.2.1,d.2.2.2.2.1,())) _ 5 ?_ ⟨by simp,by have:Av (r3.1,r3.2.1,r3.2.2.1,())≤0:=h3;dsimp only;omega,Ad hc h5c⟩
 rintro j ⟨m,i,c1,c2,c3,x1,x2,x3,p1,p2,p3,⟨⟩⟩ hj ⟨g1,g2,g3⟩
 dsimp only at g1 g2 g3
 unfold Pa
 simp only[Ah,Ai,Ab,Am]
 refine An (fun h=>?_) (fun h=>Ae (.inr ⟨_,rfl,by dsimp only;omega,g3⟩))
 have h:=of_decide_eq_true h
 refine Ag (Ba _ g3 zq3) (fun r7 ⟨_,h7c⟩=>?_)
 refine Ag (X9 _) (fun r8 _=>?_)
 refine Ag (Ch _ (Ad g3 h7c) zq3) (fun r9 ⟨_,h9c⟩=>?_)
 refine Ag (Avd _ _ _ _ zq0) (fun r10 h10=>?_)
 refine Ag (Ba _ (Ad g3 h9c) zq3) (fun r11 ⟨_,h11c⟩=>?_)
 refine Ae (.inl ⟨_,rfl,by omega,?_,?_,by have:=Ad g3 h11c;exact this⟩)
 ·dsimp only;rw[w64 zq0];omega
 ·have:Av (r10.1.1,r10.1.2.1,r10.1.2.2.1,())≤50*j+50:=Nat.le_trans h10 zq0
  dsimp only;omega
theorem R3 {p0 p1:Int} {l:List Aj} {i:Nat} {x:Aj} {N:Nat} (h:l.length+C4 Ck l≤N) (hx:Ck x≤300):Av (p0,p1,l.set i x,())≤N+300:=by
 have:=X8 (f:=Ck) (l:=l) (i:=i) (x:=x)
 simp only[Av,List.length_set];omega
theorem Atc {b:List YB} {a0:Ap} (hc:Bw b a0):Tot (fun r=>Av r.1≤600∧Bw b r.2) (Xx a0):=by
 unfold Xx W5
 simp only[Ah,Ai,Ab,Am]
 refine Ag (Va hc) (fun r1 ⟨h1,h1c⟩=>?_)
 have h1':r1.1.2.2.1.length+C4 Ck r1.1.2.2.1≤250:=h1
 have hat: ∀i:Int,0≤i→i<(r1.1.2.2.1.length:Int)→Tot (fun e=>Ck e≤250) (idx r1.1.2.2.1 i):=fun i h0 hi=>
  Gc h0 hi (fun x hx=>by have:=Af3 (f:=Ck) hx;omega)
 refine An (fun _=>Ae ⟨by dsimp only;omega,Ad hc h1c⟩) (fun hb=>?_)
 have hl:(r1.1.2.2.1.length:Int)≠0:=by simpa using hb
 refine Ag (Bz _ (Ad hc h1c) zq3) (fun r2 h2c=>?_)
 refine An (fun _=>Ae ⟨by dsimp only;omega,Ad hc h2c⟩) (fun _=>?_)
 refine Ag (Ba _ (Ad hc h2c) zq2) (fun r3 ⟨⟨h3,h3b⟩,h3c⟩=>?_)
 dsimp only at h3b
 have h3b:r3.1.1<(r1.1.2.2.1.length:Int):=by omega
 refine Ag (Ba _ (Ad hc h3c) zq3) (fun r4 ⟨_,h4c⟩=>?_)
 refine An (fun _=>?_) (fun _=>?_)
 ·exact Ag (Ali (Ad hc h4c)) (fun r5 h5c=>Ae ⟨by simp only[Av];omega,Ad hc h5c⟩)
 refine An (fun _=>?_) (fun _=>?_)
 ·exact Ag (Ali (Ad hc h4c)) (fun r5 h5c=>Ag (hat _ h3 h3b) (fun e he=>Ae ⟨Nat.le_trans (R3 h1' (by simp only[Ck]at*;omega)) zq0,Ad hc h5c⟩))
 refine An (fun _=>?_) (fun _=>?_)
 ·exact Ag (Ch _ (Ad hc h4c) zq3) (fun r5 ⟨⟨h5,_⟩,h5c⟩=>Ag (hat _ h3 h3b) (fun e he=>Ae ⟨Nat.le_trans (R3 h1' (by simp only[Ck];dsimp only at h5;omega)) zq0,Ad hc h5c⟩))
 refine An (fun _=>?_) (fun _=>?_)
 ·exact Ag (Bh _ (-1) 1000007 (Ad hc h4c) zq3 zq3) (fun r5 ⟨_,h5c⟩=>Ag (hat _ h3 h3b) (fun e he=>Ae ⟨Nat.le_trans (R3 h1' (by simp only[Ck]at*;omega)) zq0,Ad hc h5c⟩))
 refine An (fun _=>?_) (fun _=>?_)
 ·exact Ag (hat _ h3 h3b) (fun e he=>Ae ⟨by simp only[Av];omega,Ad hc h4c⟩)
 ·exact Ae ⟨by dsimp only;omega,Ad hc h4c⟩
theorem Aok (p:YBs) (id:YI) (f:D4) (h:Ce f≤1000):Tot (fun r=>Ce r.1≤Ce f+100∧(wfB f.2.2.2.1→wfB r.1.2.2.2.1)) (Rf p id f):=by
 unfold Rf Qo
 simp only[Ah,Ai,Ab,Am]
 rw[Ak7,Ak]
 refine An (fun _=>Ae ⟨by simp[Ce],fun _=>Fp⟩) (fun _=>?_)
 refine An (fun _=>Ae ⟨by simp[Ce],fun _=>Fp⟩) (fun _=>?_)
 have hp:=Au7 p.1 id.1 f.2.2.1 f.2.2.2.1 f.2.2.2.2.1 f.2.2.2.2.2.1
 rw[show S1 p id (f.2.2.1,()) (f.2.2.2.1,()) (f.2.2.2.2.1,()) (f.2.2.2.2.2.1,())=_ from Ayu p.1 id.1 _ _ _ _,Ak]
 refine An (fun _=>Ae ⟨by simp[Ce],fun _=>Fp⟩) (fun _=>?_)
 rw[Aws _ zq0,Ak]
 simp only[Ce]at h
 exact Ae ⟨by simp only[Ce,List.length_nil];omega,fun h=>h⟩
theorem Aqr (p:YBs) (n:YI) (a:Da) (f:D4) (h:Ce f≤500) (hw:wfB f.2.2.2.1):Tot (SP 1200) (U0 p n a f):=by
 have zero:Tot (SP 1200) (some ((0,[],[],0,[],0,[],0,0,[],0,[],0,0,[],false,0,[],0,0,[],0,0,false,()):Af)):=Ae ⟨by simp[Az,C4],Fp,Fp⟩
 have hcn:f.2.2.1.length≤Ce f:=by simp only[Ce];omega
 have hsn:f.2.2.2.1.length≤Ce f:=by simp only[Ce];omega
 unfold U0 T1
 simp only[Ah,Ai,Ab,Am,List.length_nil,List.nil_append,Nat.zero_add]
 refine Ag (Avb _) (fun _ _=>An (fun _=>zero) (fun _=>?_))
 rw[Dd,Ak]
 refine An (fun _=>zero) (fun _=>?_)
 refine Ag (Ata _) (fun _ _=>An (fun _=>zero) (fun _=>?_))
 rw[Ak7,Ak]
 refine An (fun _=>zero) (fun _=>An (fun _=>zero) (fun _=>?_))
 refine Dr (Ao zq0) (Dr (Ao zq0) ?_)
 obtain⟨p,⟨⟩⟩:=p
 rw[As2,Ak]
 refine Ag (Ae0 _ _ _ zq2) (fun r6 ⟨h6,h6w⟩=>?_)
 refine Ag (Acy _) (fun r7 h7=>?_)
 exact Ae (Jn (A:=500) (B:=500) (C:=100) (D:=0) zq0 zq0 h6 h7 hw (h6w hw) zq3)
theorem Vb {b:List YB} {a0:Ap} (hc:Bw b a0):Tot (fun r=>SP 4500 r.1∧Bw b r.2) (J7 a0):=by
 unfold J7 Uc
 simp only[Ah,Ai,Ab,Am]
 refine Ag (Ch _ hc zq3) (fun r1 ⟨_,h1c⟩=>?_)
 refine Ag (Ba _ (Ad hc h1c) zq3) (fun r2 ⟨_,h2c⟩=>?_)
 refine Ag (Amr (Ad hc h2c)) (fun r3 ⟨⟨h3,h3w⟩,h3c⟩=>?_)
 refine Ag (Q:=fun q=>Ce q.1≤500∧wfB q.1.2.2.2.1) ?_ (fun r4 ⟨h4,h4w⟩=>?_)
 ·refine(Aok _ _ _ zq0).mono (fun q hq=>⟨?_,hq.2 h3w⟩)
  exact Nat.le_trans hq.1 zq0
 refine Ag (Ch _ (Ad hc h3c) zq3) (fun r5 ⟨_,h5c⟩=>?_)
 refine Ag (Bh _ 0 90 (Ad hc h5c) zq3 zq3) (fun r6 ⟨_,h6c⟩=>?_)
 refine Ag (Ba _ (Ad hc h6c) zq3) (fun r7 ⟨_,h7c⟩=>?_)
 refine Ag (X9 _) (fun r8 _=>?_)
 refine Ag (Aqr _ _ _ _ h4 h4w) (fun r9 h9=>?_)
 obtain⟨k1,k2,k3,k4⟩:=Zb h9
 refine Ag (Bz _ (Ad hc h7c) zq3) (fun r10 h10c=>?_)
 refine An (fun _=>?_) (fun _=>?_)
 ·refine Ag (Ae1 _ (Ad hc h10c)) (fun r11 ⟨⟨h11,h11w⟩,h11c⟩=>?_)
  have h11s:r11.1.2.1.length≤400:=Nat.le_trans (by simp only[Bf];omega) h11
  refine Ag (Bz _ (Ad hc h11c) zq3) (fun r12 h12c=>?_)
  refine An (fun _=>?_) (fun _=>?_)
  ·refine Ag (Va (Ad hc h12c)) (fun r13 ⟨h13,h13c⟩=>?_)
   exact Ae ⟨Jn k1 h11s h11 h13 h11w h11w zq3,Ad hc h13c⟩
  ·exact Ae ⟨Jn k1 h11s h11 k4 h11w h11w zq3,Ad hc h12c⟩
 ·refine Ag (Bz _ (Ad hc h10c) zq3) (fun r14 h14c=>?_)
  refine An (fun _=>?_) (fun _=>?_)
  ·refine Ag (Va (Ad hc h14c)) (fun r15 ⟨h15,h15c⟩=>?_)
   exact Ae ⟨Jn k1 k2 k3 h15 h9.2.1 h9.2.2 zq3,Ad hc h15c⟩
  ·exact Ae ⟨⟨Nat.le_trans h9.1 zq3,h9.2⟩,Ad hc h14c⟩
end
end Go.Proofs.YtfljmgnghlpapaaGreat
