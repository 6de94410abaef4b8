/-
  That the program and the reference answer alike, in plain terms, and that the laws answer true.
-/
import Derived.Test.YtmhhajdeafijmaaGreatL49
namespace Go.Proofs.YtmhhajdeafijmaaGreat
open Go.RowKit
set_option linter.unusedVariables false
set_option linter.unusedSimpArgs false
set_option maxRecDepth 100000
set_option maxHeartbeats 8000000
noncomputable section
def SP (N:Nat) (s:A4):Prop:=Bm s≤N∧wfB s.2.2.1∧wfB (Ew s).2.1
theorem Qt (s:A4):Bm s=s.2.1.length+s.2.2.1.length+Ax (Ew s)+A0 (B4 s):=by
 simp only[Bm,Ax,Ew,A0,B4];omega
theorem Mw {N A B C D:Nat} {i:Int} {cn sn:List YB} {c0:Int} {c1:List YB} {c2:Int} {c3:List YB} {c4 c5:Int} {c6:List YI} {c7:Int} {c8:List YB} {c9 c10:Int} {c11:List YI} {c12:Bool} {c13:Int} {c14:List YB} {p0 p1:Int} {p2:List Am} {t la:Int} {dd:Bool}
  (h1:cn.length≤A) (h2:sn.length≤B) (h3:Ax (c0,c1,c2,c3,c4,c5,c6,c7,c8,c9,c10,c11,c12,c13,c14,())≤C) (h4:A0 (p0,p1,p2,())≤D) (w1:wfB sn) (w2:wfB c1) (h:A+B+C+D≤N):
  SP N (i,cn,sn,c0,c1,c2,c3,c4,c5,c6,c7,c8,c9,c10,c11,c12,c13,c14,p0,p1,p2,t,la,dd,()):=by
 refine⟨?_,w1,w2⟩
 rw[Qt]
 have e3:Ax (Ew ((i,cn,sn,c0,c1,c2,c3,c4,c5,c6,c7,c8,c9,c10,c11,c12,c13,c14,p0,p1,p2,t,la,dd,()):A4))≤C:=h3
 have e4:A0 (B4 ((i,cn,sn,c0,c1,c2,c3,c4,c5,c6,c7,c8,c9,c10,c11,c12,c13,c14,p0,p1,p2,t,la,dd,()):A4))≤D:=h4
 dsimp only
 omega
theorem Af5 {N:Nat} {s:A4} (h:SP N s):s.2.1.length≤N∧s.2.2.1.length≤N∧Ax (Ew s)≤N∧A0 (B4 s)≤N:=by
 have:=Qt s
 have:=h.1
 omega
theorem Aj6 (a:Bw):Tot (fun r=>A0 r≤0) (Vp a):=Ae (by simp[A0,Cm])
theorem A5x (p:A7) (n:YI) (a:Bw) (d:YBs) (h:A0 p≤100000):Tot (fun r=>A0 r.1≤A0 p+50) (Da p n a d):=by
 obtain⟨p',b,_,h2,_,h4,_⟩:=I0 p n a d zq0
 rw[h2];exact Ae h4
theorem Abg {b:List YB} {a0:Av} (hc:Bx b a0):Tot (fun r=>A0 r.1≤250∧Bx b r.2) (M6 a0):=by
 unfold M6 Z0
 simp only[Af,Ah,Ac,An]
 refine Ad (Bb _ hc zq3) (fun r1 ⟨_,h1c⟩=>?_)
 refine Ad (W8 _) (fun r2 _=>?_)
 refine Ad (Aj6 _) (fun r3 h3=>?_)
 refine Ad (Bb _ (Aa hc h1c) zq3) (fun r4 ⟨⟨h4,h4b⟩,h4c⟩=>?_)
 refine Ad (Bb _ (Aa hc h4c) zq3) (fun r5 ⟨⟨h5,h5b⟩,h5c⟩=>?_)
 dsimp only at h4b h5b
 refine Ad (Q:=fun o:(List YB)×Int×Int×Int×Int×(List Am)×Int×Int×(List Am)×Unit=>A0 (o.2.2.2.2.2.2.1,o.2.2.2.2.2.2.2.1,o.2.2.2.2.2.2.2.2.1,())≤250∧Bx b (o.1,o.2.1,o.2.2.1,())) ?_ (fun o ho=>Ae ho)
 refine U4 (fun j d=>d.2.1=r5.1.1-(j:Int)∧A0 (d.2.2.2.2.2.2.2.2.1,d.2.2.2.2.2.2.2.2.2.1,d.2.2.2.2.2.2.2.2.2.2.1,())≤50*j∧Bx b (d.2.2.1,d.2.2.2.1,d.2.2.2.2.1,())) _ 5 ?_ ⟨by simp,by have:A0 (r3.1,r3.2.1,r3.2.2.1,())≤0:=h3;dsimp only;omega,Aa hc h5c⟩
 rintro j ⟨m,i,c1,c2,c3,x1,x2,x3,p1,p2,p3,⟨⟩⟩ hj ⟨g1,g2,g3⟩
 dsimp only at g1 g2 g3
 unfold Tu
 simp only[Af,Ah,Ac,An]
 refine Ak (fun h=>?_) (fun h=>Ae (.inr ⟨_,rfl,by dsimp only;omega,g3⟩))
 have h:=of_decide_eq_true h
 refine Ad (Bb _ g3 zq3) (fun r7 ⟨_,h7c⟩=>?_)
 refine Ad (W8 _) (fun r8 _=>?_)
 refine Ad (Cn _ (Aa g3 h7c) zq3) (fun r9 ⟨_,h9c⟩=>?_)
 refine Ad (A5x _ _ _ _ zq0) (fun r10 h10=>?_)
 refine Ad (Bb _ (Aa g3 h9c) zq3) (fun r11 ⟨_,h11c⟩=>?_)
 refine Ae (.inl ⟨_,rfl,by omega,?_,?_,by have:=Aa g3 h11c;exact this⟩)
 ·dsimp only;rw[w64 zq0];omega
 ·have:A0 (r10.1.1,r10.1.2.1,r10.1.2.2.1,())≤50*j+50:=Nat.le_trans h10 zq0
  dsimp only;omega
theorem W9 {p0 p1:Int} {l:List Am} {i:Nat} {x:Am} {N:Nat} (h:l.length+Cm Cf l≤N) (hx:Cf x≤300):A0 (p0,p1,l.set i x,())≤N+300:=by
 have:=Axg (f:=Cf) (l:=l) (i:=i) (x:=x)
 simp only[A0,List.length_set];omega
theorem A3d {b:List YB} {a0:Av} (hc:Bx b a0):Tot (fun r=>A0 r.1≤600∧Bx b r.2) (Adk a0):=by
 unfold Adk Adj
 simp only[Af,Ah,Ac,An]
 refine Ad (Abg hc) (fun r1 ⟨h1,h1c⟩=>?_)
 have h1':r1.1.2.2.1.length+Cm Cf r1.1.2.2.1≤250:=h1
 have hat: ∀i:Int,0≤i→i<(r1.1.2.2.1.length:Int)→Tot (fun e=>Cf e≤250) (idx r1.1.2.2.1 i):=fun i h0 hi=>
  Mv h0 hi (fun x hx=>by have:=Af6 (f:=Cf) hx;omega)
 refine Ak (fun _=>Ae ⟨by dsimp only;omega,Aa hc h1c⟩) (fun hb=>?_)
 have hl:(r1.1.2.2.1.length:Int)≠0:=by simpa using hb
 refine Ad (Aw _ (Aa hc h1c) zq3) (fun r2 h2c=>?_)
 refine Ak (fun _=>Ae ⟨by dsimp only;omega,Aa hc h2c⟩) (fun _=>?_)
 refine Ad (Bb _ (Aa hc h2c) zq2) (fun r3 ⟨⟨h3,h3b⟩,h3c⟩=>?_)
 dsimp only at h3b
 have h3b:r3.1.1<(r1.1.2.2.1.length:Int):=by omega
 refine Ad (Bb _ (Aa hc h3c) zq3) (fun r4 ⟨_,h4c⟩=>?_)
 refine Ak (fun _=>?_) (fun _=>?_)
 ·exact Ad (Aj5 (Aa hc h4c)) (fun r5 h5c=>Ae ⟨by simp only[A0];omega,Aa hc h5c⟩)
 refine Ak (fun _=>?_) (fun _=>?_)
 ·exact Ad (Aj5 (Aa hc h4c)) (fun r5 h5c=>Ad (hat _ h3 h3b) (fun e he=>Ae ⟨Nat.le_trans (W9 h1' (by simp only[Cf]at*;omega)) zq0,Aa hc h5c⟩))
 refine Ak (fun _=>?_) (fun _=>?_)
 ·exact Ad (Cn _ (Aa hc h4c) zq3) (fun r5 ⟨⟨h5,_⟩,h5c⟩=>Ad (hat _ h3 h3b) (fun e he=>Ae ⟨Nat.le_trans (W9 h1' (by simp only[Cf];dsimp only at h5;omega)) zq0,Aa hc h5c⟩))
 refine Ak (fun _=>?_) (fun _=>?_)
 ·exact Ad (Bh _ (-1) 1000007 (Aa hc h4c) zq3 zq3) (fun r5 ⟨_,h5c⟩=>Ad (hat _ h3 h3b) (fun e he=>Ae ⟨Nat.le_trans (W9 h1' (by simp only[Cf]at*;omega)) zq0,Aa hc h5c⟩))
 refine Ak (fun _=>?_) (fun _=>?_)
 ·exact Ad (hat _ h3 h3b) (fun e he=>Ae ⟨by simp only[A0];omega,Aa hc h4c⟩)
 ·exact Ae ⟨by dsimp only;omega,Aa hc h4c⟩
theorem Ax3 (p:YBs) (id:YI) (f:Au) (h:Aq f≤1000):Tot (fun r=>Aq r.1≤Aq f+100∧(wfB f.2.2.2.1→wfB r.1.2.2.2.1)) (Vk p id f):=by
 unfold Vk Vj
 simp only[Af,Ah,Ac,An]
 rw[Ta,Ai]
 refine Ak (fun _=>Ae ⟨by simp[Aq],fun _=>Fu⟩) (fun _=>?_)
 refine Ak (fun _=>Ae ⟨by simp[Aq],fun _=>Fu⟩) (fun _=>?_)
 have hp:=A5o p.1 id.1 f.2.2.1 f.2.2.2.1 f.2.2.2.2.1 f.2.2.2.2.2.1
 rw[show Xj p id (f.2.2.1,()) (f.2.2.2.1,()) (f.2.2.2.2.1,()) (f.2.2.2.2.2.1,())=_ from A86 p.1 id.1 _ _ _ _,Ai]
 refine Ak (fun _=>Ae ⟨by simp[Aq],fun _=>Fu⟩) (fun _=>?_)
 rw[Axk _ zq0,Ai]
 simp only[Aq]at h
 exact Ae ⟨by simp only[Aq,List.length_nil];omega,fun h=>h⟩
theorem A0o (p:YBs) (n:YI) (a:Bw) (f:Au) (h:Aq f≤500) (hw:wfB f.2.2.2.1):Tot (SP 1200) (Zv p n a f):=by
 have zero:Tot (SP 1200) (some ((0,[],[],0,[],0,[],0,0,[],0,[],0,0,[],false,0,[],0,0,[],0,0,false,()):A4)):=Ae ⟨by simp[Bm,Cm],Fu,Fu⟩
 have hcn:f.2.2.1.length≤Aq f:=by simp only[Aq];omega
 have hsn:f.2.2.2.1.length≤Aq f:=by simp only[Aq];omega
 unfold Zv Zu
 simp only[Af,Ah,Ac,An,List.length_nil,List.nil_append,Nat.zero_add]
 refine Ad (A5v _) (fun _ _=>Ak (fun _=>zero) (fun _=>?_))
 rw[C4,Ai]
 refine Ak (fun _=>zero) (fun _=>?_)
 refine Ad (A3b _) (fun _ _=>Ak (fun _=>zero) (fun _=>?_))
 rw[Ta,Ai]
 refine Ak (fun _=>zero) (fun _=>Ak (fun _=>zero) (fun _=>?_))
 refine Eg (Al zq0) (Eg (Al zq0) ?_)
 obtain⟨p,⟨⟩⟩:=p
 rw[A21,Ai]
 refine Ad (Aml _ _ _ zq2) (fun r6 ⟨h6,h6w⟩=>?_)
 refine Ad (Aj6 _) (fun r7 h7=>?_)
 exact Ae (Mw (A:=500) (B:=500) (C:=100) (D:=0) zq0 zq0 h6 h7 hw (h6w hw) zq3)
theorem A0p {b:List YB} {a0:Av} (hc:Bx b a0):Tot (fun r=>SP 4500 r.1∧Bx b r.2) (Z2 a0):=by
 unfold Z2 Z1
 simp only[Af,Ah,Ac,An]
 refine Ad (Cn _ hc zq3) (fun r1 ⟨_,h1c⟩=>?_)
 refine Ad (Bb _ (Aa hc h1c) zq3) (fun r2 ⟨_,h2c⟩=>?_)
 refine Ad (Avn (Aa hc h2c)) (fun r3 ⟨⟨h3,h3w⟩,h3c⟩=>?_)
 refine Ad (Q:=fun q=>Aq q.1≤500∧wfB q.1.2.2.2.1) ?_ (fun r4 ⟨h4,h4w⟩=>?_)
 ·refine(Ax3 _ _ _ zq0).mono (fun q hq=>⟨?_,hq.2 h3w⟩)
  exact Nat.le_trans hq.1 zq0
 refine Ad (Cn _ (Aa hc h3c) zq3) (fun r5 ⟨_,h5c⟩=>?_)
 refine Ad (Bh _ 0 90 (Aa hc h5c) zq3 zq3) (fun r6 ⟨_,h6c⟩=>?_)
 refine Ad (Bb _ (Aa hc h6c) zq3) (fun r7 ⟨_,h7c⟩=>?_)
 refine Ad (W8 _) (fun r8 _=>?_)
 refine Ad (A0o _ _ _ _ h4 h4w) (fun r9 h9=>?_)
 obtain⟨k1,k2,k3,k4⟩:=Af5 h9
 refine Ad (Aw _ (Aa hc h7c) zq3) (fun r10 h10c=>?_)
 refine Ak (fun _=>?_) (fun _=>?_)
 ·refine Ad (Amm _ (Aa hc h10c)) (fun r11 ⟨⟨h11,h11w⟩,h11c⟩=>?_)
  have h11s:r11.1.2.1.length≤400:=Nat.le_trans (by simp only[Ax];omega) h11
  refine Ad (Aw _ (Aa hc h11c) zq3) (fun r12 h12c=>?_)
  refine Ak (fun _=>?_) (fun _=>?_)
  ·refine Ad (Abg (Aa hc h12c)) (fun r13 ⟨h13,h13c⟩=>?_)
   exact Ae ⟨Mw k1 h11s h11 h13 h11w h11w zq3,Aa hc h13c⟩
  ·exact Ae ⟨Mw k1 h11s h11 k4 h11w h11w zq3,Aa hc h12c⟩
 ·refine Ad (Aw _ (Aa hc h10c) zq3) (fun r14 h14c=>?_)
  refine Ak (fun _=>?_) (fun _=>?_)
  ·refine Ad (Abg (Aa hc h14c)) (fun r15 ⟨h15,h15c⟩=>?_)
   exact Ae ⟨Mw k1 k2 k3 h15 h9.2.1 h9.2.2 zq3,Aa hc h15c⟩
  ·exact Ae ⟨⟨Nat.le_trans h9.1 zq3,h9.2⟩,Aa hc h14c⟩
end
end Go.Proofs.YtmhhajdeafijmaaGreat
