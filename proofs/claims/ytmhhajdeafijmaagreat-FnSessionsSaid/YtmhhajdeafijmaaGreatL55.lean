/-
  That the program and the reference answer alike, in plain terms, and that the laws answer true.
-/
import Derived.Test.YtmhhajdeafijmaaGreatL49
namespace Go.Proofs.YtmhhajdeafijmaaGreat
open Go.RowKit
set_option linter.unusedVariables false
set_option linter.unusedSimpArgs false
set_option maxRecDepth 100000
set_option maxHeartbeats 8000000
noncomputable section
def SP (N:Nat) (s:Bd):Prop:=Bw s≤N∧wfB s.2.2.1∧wfB (Ck s).2.1
theorem Af9 (s:Bd):Bw s=s.2.1.length+s.2.2.1.length+Av (Ck s)+Au (A5 s):=by
 simp only[Bw,Av,Ck,Au,A5];omega
theorem Avv {N A B C D:Nat} {i:Int} {cn sn:List YB} {c0:Int} {c1:List YB} {c2:Int} {c3:List YB} {c4 c5:Int} {c6:List YI} {c7:Int} {c8:List YB} {c9 c10:Int} {c11:List YI} {c12:Bool} {c13:Int} {c14:List YB} {p0 p1:Int} {p2:List Al} {t la:Int} {dd:Bool}
  (h1:cn.length≤A) (h2:sn.length≤B) (h3:Av (c0,c1,c2,c3,c4,c5,c6,c7,c8,c9,c10,c11,c12,c13,c14,())≤C) (h4:Au (p0,p1,p2,())≤D) (w1:wfB sn) (w2:wfB c1) (h:A+B+C+D≤N):
  SP N (i,cn,sn,c0,c1,c2,c3,c4,c5,c6,c7,c8,c9,c10,c11,c12,c13,c14,p0,p1,p2,t,la,dd,()):=by
 refine⟨?_,w1,w2⟩
 rw[Af9]
 have e3:Av (Ck ((i,cn,sn,c0,c1,c2,c3,c4,c5,c6,c7,c8,c9,c10,c11,c12,c13,c14,p0,p1,p2,t,la,dd,()):Bd))≤C:=h3
 have e4:Au (A5 ((i,cn,sn,c0,c1,c2,c3,c4,c5,c6,c7,c8,c9,c10,c11,c12,c13,c14,p0,p1,p2,t,la,dd,()):Bd))≤D:=h4
 dsimp only
 omega
theorem Axu {N:Nat} {s:Bd} (h:SP N s):s.2.1.length≤N∧s.2.2.1.length≤N∧Av (Ck s)≤N∧Au (A5 s)≤N:=by
 have:=Af9 s
 have:=h.1
 omega
theorem Ajy (a:Bu):Tot (fun r=>Au r≤0) (Mi a):=Ah (by simp[Au,Dg])
theorem A5v (p:A9) (n:YI) (a:Bu) (d:YBs) (h:Au p≤100000):Tot (fun r=>Au r.1≤Au p+50) (Df p n a d):=by
 obtain⟨p',b,_,h2,_,h4,_⟩:=F8 p n a d zq0
 rw[h2];exact Ah h4
theorem Amn {b:List YB} {a0:Az} (hc:B9 b a0):Tot (fun r=>Au r.1≤250∧B9 b r.2) (Lo a0):=by
 unfold Lo Ti
 simp only[Ae,Ai,Ac,Ak]
 refine Ad (Bg _ hc zq4) (fun r1 ⟨_,h1c⟩=>?_)
 refine Ad (Sz _) (fun r2 _=>?_)
 refine Ad (Ajy _) (fun r3 h3=>?_)
 refine Ad (Bg _ (Ab hc h1c) zq4) (fun r4 ⟨⟨h4,h4b⟩,h4c⟩=>?_)
 refine Ad (Bg _ (Ab hc h4c) zq4) (fun r5 ⟨⟨h5,h5b⟩,h5c⟩=>?_)
 dsimp only at h4b h5b
 refine Ad (Q:=fun o:(List YB)×Int×Int×Int×Int×(List Al)×Int×Int×(List Al)×Unit=>Au (o.2.2.2.2.2.2.1,o.2.2.2.2.2.2.2.1,o.2.2.2.2.2.2.2.2.1,())≤250∧B9 b (o.1,o.2.1,o.2.2.1,())) ?_ (fun o ho=>Ah ho)
 refine Nn (fun j d=>d.2.1=r5.1.1-(j:Int)∧Au (d.2.2.2.2.2.2.2.2.1,d.2.2.2.2.2.2.2.2.2.1,d.2.2.2.2.2.2.2.2.2.2.1,())≤50*j∧B9 b (d.2.2.1,d.2.2.2.1,d.2.2.2.2.1,())) _ 5 ?_ ⟨by simp,by have:Au (r3.1,r3.2.1,r3.2.2.1,())≤0:=h3;dsimp only;omega,Ab hc h5c⟩
 rintro j ⟨m,i,c1,c2,c3,x1,x2,x3,p1,p2,p3,⟨⟩⟩ hj ⟨g1,g2,g3⟩
 dsimp only at g1 g2 g3
 unfold Om
 simp only[Ae,Ai,Ac,Ak]
 refine Ao (fun h=>?_) (fun h=>Ah (.inr ⟨_,rfl,by dsimp only;omega,g3⟩))
 have h:=of_decide_eq_true h
 refine Ad (Bg _ g3 zq4) (fun r7 ⟨_,h7c⟩=>?_)
 refine Ad (Sz _) (fun r8 _=>?_)
 refine Ad (Cr _ (Ab g3 h7c) zq4) (fun r9 ⟨_,h9c⟩=>?_)
 refine Ad (A5v _ _ _ _ zq0) (fun r10 h10=>?_)
 refine Ad (Bg _ (Ab g3 h9c) zq4) (fun r11 ⟨_,h11c⟩=>?_)
 refine Ah (.inl ⟨_,rfl,by omega,?_,?_,by have:=Ab g3 h11c;exact this⟩)
 ·dsimp only;rw[w64 zq0];omega
 ·have:Au (r10.1.1,r10.1.2.1,r10.1.2.2.1,())≤50*j+50:=Nat.le_trans h10 zq0
  dsimp only;omega
theorem Axv (p:YBs) (id:YI) (f:Aq) (h:Ar f≤1000):Tot (fun r=>Ar r.1≤Ar f+100∧(wfB f.2.2.2.1→wfB r.1.2.2.2.1)) (Jz p id f):=by
 unfold Jz Qg
 simp only[Ae,Ai,Ac,Ak]
 rw[Mr,Ag]
 refine Ao (fun _=>Ah ⟨by simp[Ar],fun _=>Gx⟩) (fun _=>?_)
 refine Ao (fun _=>Ah ⟨by simp[Ar],fun _=>Gx⟩) (fun _=>?_)
 have hp:=A5l p.1 id.1 f.2.2.1 f.2.2.2.1 f.2.2.2.2.1 f.2.2.2.2.2.1
 rw[show Zo p id (f.2.2.1,()) (f.2.2.2.1,()) (f.2.2.2.2.1,()) (f.2.2.2.2.2.1,())=_ from A1l p.1 id.1 _ _ _ _,Ag]
 refine Ao (fun _=>Ah ⟨by simp[Ar],fun _=>Gx⟩) (fun _=>?_)
 rw[Anx _ zq0,Ag]
 simp only[Ar]at h
 exact Ah ⟨by simp only[Ar,List.length_nil];omega,fun h=>h⟩
theorem A0i (p:YBs) (n:YI) (a:Bu) (f:Aq) (h:Ar f≤500) (hw:wfB f.2.2.2.1):Tot (SP 1200) (N5 p n a f):=by
 have zero:Tot (SP 1200) (some ((0,[],[],0,[],0,[],0,0,[],0,[],0,0,[],false,0,[],0,0,[],0,0,false,()):Bd)):=Ah ⟨by simp[Bw,Dg],Gx,Gx⟩
 have hcn:f.2.2.1.length≤Ar f:=by simp only[Ar];omega
 have hsn:f.2.2.2.1.length≤Ar f:=by simp only[Ar];omega
 unfold N5 Tf
 simp only[Ae,Ai,Ac,Ak,List.length_nil,List.nil_append,Nat.zero_add]
 refine Ad (A5t _) (fun _ _=>Ao (fun _=>zero) (fun _=>?_))
 rw[Cz,Ag]
 refine Ao (fun _=>zero) (fun _=>?_)
 refine Ad (A3j _) (fun _ _=>Ao (fun _=>zero) (fun _=>?_))
 rw[Mr,Ag]
 refine Ao (fun _=>zero) (fun _=>Ao (fun _=>zero) (fun _=>?_))
 refine F9 (Am zq0) (F9 (Am zq0) ?_)
 obtain⟨p,⟨⟩⟩:=p
 rw[Aql,Ag]
 refine Ad (Aml _ _ _ zq2) (fun r6 ⟨h6,h6w⟩=>?_)
 refine Ad (Ajy _) (fun r7 h7=>?_)
 exact Ah (Avv (A:=500) (B:=500) (C:=100) (D:=0) zq0 zq0 h6 h7 hw (h6w hw) zq4)
theorem A0j {b:List YB} {a0:Az} (hc:B9 b a0):Tot (fun r=>SP 4500 r.1∧B9 b r.2) (N7 a0):=by
 unfold N7 Tj
 simp only[Ae,Ai,Ac,Ak]
 refine Ad (Cr _ hc zq4) (fun r1 ⟨_,h1c⟩=>?_)
 refine Ad (Bg _ (Ab hc h1c) zq4) (fun r2 ⟨_,h2c⟩=>?_)
 refine Ad (Avn (Ab hc h2c)) (fun r3 ⟨⟨h3,h3w⟩,h3c⟩=>?_)
 refine Ad (Q:=fun q=>Ar q.1≤500∧wfB q.1.2.2.2.1) ?_ (fun r4 ⟨h4,h4w⟩=>?_)
 ·refine(Axv _ _ _ zq0).mono (fun q hq=>⟨?_,hq.2 h3w⟩)
  exact Nat.le_trans hq.1 zq0
 refine Ad (Cr _ (Ab hc h3c) zq4) (fun r5 ⟨_,h5c⟩=>?_)
 refine Ad (B7 _ 0 90 (Ab hc h5c) zq4 zq4) (fun r6 ⟨_,h6c⟩=>?_)
 refine Ad (Bg _ (Ab hc h6c) zq4) (fun r7 ⟨_,h7c⟩=>?_)
 refine Ad (Sz _) (fun r8 _=>?_)
 refine Ad (A0i _ _ _ _ h4 h4w) (fun r9 h9=>?_)
 obtain⟨k1,k2,k3,k4⟩:=Axu h9
 refine Ad (As _ (Ab hc h7c) zq4) (fun r10 h10c=>?_)
 refine Ao (fun _=>?_) (fun _=>?_)
 ·refine Ad (A0h _ (Ab hc h10c)) (fun r11 ⟨⟨h11,h11w⟩,h11c⟩=>?_)
  have h11s:r11.1.2.1.length≤400:=Nat.le_trans (by simp only[Av];omega) h11
  refine Ad (As _ (Ab hc h11c) zq4) (fun r12 h12c=>?_)
  refine Ao (fun _=>?_) (fun _=>?_)
  ·refine Ad (Amn (Ab hc h12c)) (fun r13 ⟨h13,h13c⟩=>?_)
   exact Ah ⟨Avv k1 h11s h11 h13 h11w h11w zq4,Ab hc h13c⟩
  ·exact Ah ⟨Avv k1 h11s h11 k4 h11w h11w zq4,Ab hc h12c⟩
 ·refine Ad (As _ (Ab hc h10c) zq4) (fun r14 h14c=>?_)
  refine Ao (fun _=>?_) (fun _=>?_)
  ·refine Ad (Amn (Ab hc h14c)) (fun r15 ⟨h15,h15c⟩=>?_)
   exact Ah ⟨Avv k1 k2 k3 h15 h9.2.1 h9.2.2 zq4,Ab hc h15c⟩
  ·exact Ah ⟨⟨Nat.le_trans h9.1 zq4,h9.2⟩,Ab hc h14c⟩
end
end Go.Proofs.YtmhhajdeafijmaaGreat
