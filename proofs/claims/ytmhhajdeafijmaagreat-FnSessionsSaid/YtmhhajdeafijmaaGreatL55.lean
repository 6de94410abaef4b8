/-
  That the program and the reference answer alike, in plain terms, and that the laws answer true.
-/
import Derived.Test.YtmhhajdeafijmaaGreatL49
namespace Go.Proofs.YtmhhajdeafijmaaGreat
open Go.RowKit
set_option linter.unusedVariables false
set_option linter.unusedSimpArgs false
set_option maxRecDepth 100000
set_option maxHeartbeats 8000000
noncomputable section
def SP (N:Nat) (s:Bp):Prop:=Br s≤N∧wfB s.2.2.1∧wfB (Ci s).2.1
theorem Ae9 (s:Bp):Br s=s.2.1.length+s.2.2.1.length+Av (Ci s)+As (A5 s):=by
 simp only[Br,Av,Ci,As,A5];omega
theorem Atw {N A B C D:Nat} {i:Int} {cn sn:List YB} {c0:Int} {c1:List YB} {c2:Int} {c3:List YB} {c4 c5:Int} {c6:List YI} {c7:Int} {c8:List YB} {c9 c10:Int} {c11:List YI} {c12:Bool} {c13:Int} {c14:List YB} {p0 p1:Int} {p2:List Ap} {t la:Int} {dd:Bool}
  (h1:cn.length≤A) (h2:sn.length≤B) (h3:Av (c0,c1,c2,c3,c4,c5,c6,c7,c8,c9,c10,c11,c12,c13,c14,())≤C) (h4:As (p0,p1,p2,())≤D) (w1:wfB sn) (w2:wfB c1) (h:A+B+C+D≤N):
  SP N (i,cn,sn,c0,c1,c2,c3,c4,c5,c6,c7,c8,c9,c10,c11,c12,c13,c14,p0,p1,p2,t,la,dd,()):=by
 refine⟨?_,w1,w2⟩
 rw[Ae9]
 have e3:Av (Ci ((i,cn,sn,c0,c1,c2,c3,c4,c5,c6,c7,c8,c9,c10,c11,c12,c13,c14,p0,p1,p2,t,la,dd,()):Bp))≤C:=h3
 have e4:As (A5 ((i,cn,sn,c0,c1,c2,c3,c4,c5,c6,c7,c8,c9,c10,c11,c12,c13,c14,p0,p1,p2,t,la,dd,()):Bp))≤D:=h4
 dsimp only
 omega
theorem Avq {N:Nat} {s:Bp} (h:SP N s):s.2.1.length≤N∧s.2.2.1.length≤N∧Av (Ci s)≤N∧As (A5 s)≤N:=by
 have:=Ae9 s
 have:=h.1
 omega
theorem Ain (a:B7):Tot (fun r=>As r≤0) (Lq a):=Ah (by simp[As,Dd])
theorem A3p (p:Bb) (n:YI) (a:B7) (d:YBs) (h:As p≤100000):Tot (fun r=>As r.1≤As p+50) (Fa p n a d):=by
 obtain⟨p',b,_,h2,_,h4,_⟩:=F5 p n a d zq0
 rw[h2];exact Ah h4
theorem Ak3 {b:List YB} {a0:Az} (hc:B6 b a0):Tot (fun r=>As r.1≤250∧B6 b r.2) (K8 a0):=by
 unfold K8 Ss
 simp only[Ae,Ai,Ac,Aj]
 refine Ad (Bd _ hc zq4) (fun r1 ⟨_,h1c⟩=>?_)
 refine Ad (R7 _) (fun r2 _=>?_)
 refine Ad (Ain _) (fun r3 h3=>?_)
 refine Ad (Bd _ (Ab hc h1c) zq4) (fun r4 ⟨⟨h4,h4b⟩,h4c⟩=>?_)
 refine Ad (Bd _ (Ab hc h4c) zq4) (fun r5 ⟨⟨h5,h5b⟩,h5c⟩=>?_)
 dsimp only at h4b h5b
 refine Ad (Q:=fun o:(List YB)×Int×Int×Int×Int×(List Ap)×Int×Int×(List Ap)×Unit=>As (o.2.2.2.2.2.2.1,o.2.2.2.2.2.2.2.1,o.2.2.2.2.2.2.2.2.1,())≤250∧B6 b (o.1,o.2.1,o.2.2.1,())) ?_ (fun o ho=>Ah ho)
 refine M5 (fun j d=>d.2.1=r5.1.1-(j:Int)∧As (d.2.2.2.2.2.2.2.2.1,d.2.2.2.2.2.2.2.2.2.1,d.2.2.2.2.2.2.2.2.2.2.1,())≤50*j∧B6 b (d.2.2.1,d.2.2.2.1,d.2.2.2.2.1,())) _ 5 ?_ ⟨by simp,by have:As (r3.1,r3.2.1,r3.2.2.1,())≤0:=h3;dsimp only;omega,Ab hc h5c⟩
 rintro j ⟨m,i,c1,c2,c3,x1,x2,x3,p1,p2,p3,⟨⟩⟩ hj ⟨g1,g2,g3⟩
 dsimp only at g1 g2 g3
 unfold N5
 simp only[Ae,Ai,Ac,Aj]
 refine An (fun h=>?_) (fun h=>Ah (.inr ⟨_,rfl,by dsimp only;omega,g3⟩))
 have h:=of_decide_eq_true h
 refine Ad (Bd _ g3 zq4) (fun r7 ⟨_,h7c⟩=>?_)
 refine Ad (R7 _) (fun r8 _=>?_)
 refine Ad (Cp _ (Ab g3 h7c) zq4) (fun r9 ⟨_,h9c⟩=>?_)
 refine Ad (A3p _ _ _ _ zq0) (fun r10 h10=>?_)
 refine Ad (Bd _ (Ab g3 h9c) zq4) (fun r11 ⟨_,h11c⟩=>?_)
 refine Ah (.inl ⟨_,rfl,by omega,?_,?_,by have:=Ab g3 h11c;exact this⟩)
 ·dsimp only;rw[w64 zq0];omega
 ·have:As (r10.1.1,r10.1.2.1,r10.1.2.2.1,())≤50*j+50:=Nat.le_trans h10 zq0
  dsimp only;omega
theorem Avr (p:YBs) (id:YI) (f:Au) (h:Aq f≤1000):Tot (fun r=>Aq r.1≤Aq f+100∧(wfB f.2.2.2.1→wfB r.1.2.2.2.1)) (Ja p id f):=by
 unfold Ja Pp
 simp only[Ae,Ai,Ac,Aj]
 rw[Mc,Ag]
 refine An (fun _=>Ah ⟨by simp[Aq],fun _=>Gu⟩) (fun _=>?_)
 refine An (fun _=>Ah ⟨by simp[Aq],fun _=>Gu⟩) (fun _=>?_)
 have hp:=A3f p.1 id.1 f.2.2.1 f.2.2.2.1 f.2.2.2.2.1 f.2.2.2.2.2.1
 rw[show Xg p id (f.2.2.1,()) (f.2.2.2.1,()) (f.2.2.2.2.1,()) (f.2.2.2.2.2.1,())=_ from Azg p.1 id.1 _ _ _ _,Ag]
 refine An (fun _=>Ah ⟨by simp[Aq],fun _=>Gu⟩) (fun _=>?_)
 rw[Al7 _ zq0,Ag]
 simp only[Aq]at h
 exact Ah ⟨by simp only[Aq,List.length_nil];omega,fun h=>h⟩
theorem Aye (p:YBs) (n:YI) (a:B7) (f:Au) (h:Aq f≤500) (hw:wfB f.2.2.2.1):Tot (SP 1200) (Nf p n a f):=by
 have zero:Tot (SP 1200) (some ((0,[],[],0,[],0,[],0,0,[],0,[],0,0,[],false,0,[],0,0,[],0,0,false,()):Bp)):=Ah ⟨by simp[Br,Dd],Gu,Gu⟩
 have hcn:f.2.2.1.length≤Aq f:=by simp only[Aq];omega
 have hsn:f.2.2.2.1.length≤Aq f:=by simp only[Aq];omega
 unfold Nf Sm
 simp only[Ae,Ai,Ac,Aj,List.length_nil,List.nil_append,Nat.zero_add]
 refine Ad (A3n _) (fun _ _=>An (fun _=>zero) (fun _=>?_))
 rw[Cw,Ag]
 refine An (fun _=>zero) (fun _=>?_)
 refine Ad (A1d _) (fun _ _=>An (fun _=>zero) (fun _=>?_))
 rw[Mc,Ag]
 refine An (fun _=>zero) (fun _=>An (fun _=>zero) (fun _=>?_))
 refine F6 (Ak zq0) (F6 (Ak zq0) ?_)
 obtain⟨p,⟨⟩⟩:=p
 rw[Aoo,Ag]
 refine Ad (Ak1 _ _ _ zq2) (fun r6 ⟨h6,h6w⟩=>?_)
 refine Ad (Ain _) (fun r7 h7=>?_)
 exact Ah (Atw (A:=500) (B:=500) (C:=100) (D:=0) zq0 zq0 h6 h7 hw (h6w hw) zq4)
theorem Ayf {b:List YB} {a0:Az} (hc:B6 b a0):Tot (fun r=>SP 4500 r.1∧B6 b r.2) (Ni a0):=by
 unfold Ni Su
 simp only[Ae,Ai,Ac,Aj]
 refine Ad (Cp _ hc zq4) (fun r1 ⟨_,h1c⟩=>?_)
 refine Ad (Bd _ (Ab hc h1c) zq4) (fun r2 ⟨_,h2c⟩=>?_)
 refine Ad (Ato (Ab hc h2c)) (fun r3 ⟨⟨h3,h3w⟩,h3c⟩=>?_)
 refine Ad (Q:=fun q=>Aq q.1≤500∧wfB q.1.2.2.2.1) ?_ (fun r4 ⟨h4,h4w⟩=>?_)
 ·refine(Avr _ _ _ zq0).mono (fun q hq=>⟨?_,hq.2 h3w⟩)
  exact Nat.le_trans hq.1 zq0
 refine Ad (Cp _ (Ab hc h3c) zq4) (fun r5 ⟨_,h5c⟩=>?_)
 refine Ad (B0 _ 0 90 (Ab hc h5c) zq4 zq4) (fun r6 ⟨_,h6c⟩=>?_)
 refine Ad (Bd _ (Ab hc h6c) zq4) (fun r7 ⟨_,h7c⟩=>?_)
 refine Ad (R7 _) (fun r8 _=>?_)
 refine Ad (Aye _ _ _ _ h4 h4w) (fun r9 h9=>?_)
 obtain⟨k1,k2,k3,k4⟩:=Avq h9
 refine Ad (Ar _ (Ab hc h7c) zq4) (fun r10 h10c=>?_)
 refine An (fun _=>?_) (fun _=>?_)
 ·refine Ad (Ayd _ (Ab hc h10c)) (fun r11 ⟨⟨h11,h11w⟩,h11c⟩=>?_)
  have h11s:r11.1.2.1.length≤400:=Nat.le_trans (by simp only[Av];omega) h11
  refine Ad (Ar _ (Ab hc h11c) zq4) (fun r12 h12c=>?_)
  refine An (fun _=>?_) (fun _=>?_)
  ·refine Ad (Ak3 (Ab hc h12c)) (fun r13 ⟨h13,h13c⟩=>?_)
   exact Ah ⟨Atw k1 h11s h11 h13 h11w h11w zq4,Ab hc h13c⟩
  ·exact Ah ⟨Atw k1 h11s h11 k4 h11w h11w zq4,Ab hc h12c⟩
 ·refine Ad (Ar _ (Ab hc h10c) zq4) (fun r14 h14c=>?_)
  refine An (fun _=>?_) (fun _=>?_)
  ·refine Ad (Ak3 (Ab hc h14c)) (fun r15 ⟨h15,h15c⟩=>?_)
   exact Ah ⟨Atw k1 k2 k3 h15 h9.2.1 h9.2.2 zq4,Ab hc h15c⟩
  ·exact Ah ⟨⟨Nat.le_trans h9.1 zq4,h9.2⟩,Ab hc h14c⟩
end
end Go.Proofs.YtmhhajdeafijmaaGreat
