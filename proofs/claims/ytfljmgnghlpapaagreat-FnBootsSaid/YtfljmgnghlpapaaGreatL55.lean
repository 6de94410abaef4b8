/-
  That the program and the reference answer alike, in plain terms, and that the laws answer true.
-/
import Derived.Test.YtfljmgnghlpapaaGreatL49
namespace Go.Proofs.YtfljmgnghlpapaaGreat
open Go.RowKit
set_option linter.unusedVariables false
set_option linter.unusedSimpArgs false
set_option maxRecDepth 100000
set_option maxHeartbeats 8000000
noncomputable section
def SP (N:Nat) (s:Ad):Prop:=Aw s≤N∧wfB s.2.2.1∧wfB (Fx s).2.1
theorem Ix (s:Ad):Aw s=s.2.1.length+s.2.2.1.length+Bs (Fx s)+A1 (Ew s):=by
 simp only[Aw,Bs,Fx,A1,Ew];omega
theorem M6 {N A B C D:Nat} {i:Int} {cn sn:List YB} {c0:Int} {c1:List YB} {c2:Int} {c3:List YB} {c4 c5:Int} {c6:List YI} {c7:Int} {c8:List YB} {c9 c10:Int} {c11:List YI} {c12:Bool} {c13:Int} {c14:List YB} {p0 p1:Int} {p2:List Ap} {t la:Int} {dd:Bool}
  (h1:cn.length≤A) (h2:sn.length≤B) (h3:Bs (c0,c1,c2,c3,c4,c5,c6,c7,c8,c9,c10,c11,c12,c13,c14,())≤C) (h4:A1 (p0,p1,p2,())≤D) (w1:wfB sn) (w2:wfB c1) (h:A+B+C+D≤N):
  SP N (i,cn,sn,c0,c1,c2,c3,c4,c5,c6,c7,c8,c9,c10,c11,c12,c13,c14,p0,p1,p2,t,la,dd,()):=by
 refine⟨?_,w1,w2⟩
 rw[Ix]
 have e3:Bs (Fx ((i,cn,sn,c0,c1,c2,c3,c4,c5,c6,c7,c8,c9,c10,c11,c12,c13,c14,p0,p1,p2,t,la,dd,()):Ad))≤C:=h3
 have e4:A1 (Ew ((i,cn,sn,c0,c1,c2,c3,c4,c5,c6,c7,c8,c9,c10,c11,c12,c13,c14,p0,p1,p2,t,la,dd,()):Ad))≤D:=h4
 dsimp only
 omega
theorem Aib {N:Nat} {s:Ad} (h:SP N s):s.2.1.length≤N∧s.2.2.1.length≤N∧Bs (Fx s)≤N∧A1 (Ew s)≤N:=by
 have:=Ix s
 have:=h.1
 omega
theorem Am2 (a:Bi):Tot (fun r=>A1 r≤0) (Xk a):=Ah (by simp[A1,Co])
theorem Bbj (p:Bb) (n:YI) (a:Bi) (d:YBs) (h:A1 p≤100000):Tot (fun r=>A1 r.1≤A1 p+50) (Aag p n a d):=by
 obtain⟨p',b,_,h2,_,h4,_⟩:=Bdu p n a d zq0
 rw[h2];exact Ah h4
theorem Adh {b:List YB} {a0:Aq} (hc:Bn b a0):Tot (fun r=>A1 r.1≤250∧Bn b r.2) (Nw a0):=by
 unfold Nw Abu
 simp only[Ac,Ae,Ab,Al]
 refine Aj (A9 _ hc zq4) (fun r1 ⟨_,h1c⟩=>?_)
 refine Aj (X9 _) (fun r2 _=>?_)
 refine Aj (Am2 _) (fun r3 h3=>?_)
 refine Aj (A9 _ (Ag hc h1c) zq4) (fun r4 ⟨⟨h4,h4b⟩,h4c⟩=>?_)
 refine Aj (A9 _ (Ag hc h4c) zq4) (fun r5 ⟨⟨h5,h5b⟩,h5c⟩=>?_)
 dsimp only at h4b h5b
 refine Aj (Q:=fun o:(List YB)×Int×Int×Int×Int×(List Ap)×Int×Int×(List Ap)×Unit=>A1 (o.2.2.2.2.2.2.1,o.2.2.2.2.2.2.2.1,o.2.2.2.2.2.2.2.2.1,())≤250∧Bn b (o.1,o.2.1,o.2.2.1,())) ?_ (fun o ho=>Ah ho)
 refine Qu (fun j d=>d.2.1=r5.1.1-(j:Int)∧A1 (d.2.2.2.2.2.2.2.2.1,d.2.2.2.2.2.2.2.2.2.1,d.2.2.2.2.2.2.2.2.2.2.1,())≤50*j∧Bn b (d.2.2.1,d.2.2.2.1,d.2.2.2.2.1,())) _ 5 ?_ ⟨by simp,by have:A1 (r3.1,r3.2.1,r3.2.2.1,())≤0:=h3;dsimp only;omega,Ag hc h5c⟩
 rintro j ⟨m,i,c1,c2,c3,x1,x2,x3,p1,p2,p3,⟨⟩⟩ hj ⟨g1,g2,g3⟩
 dsimp only at g1 g2 g3
 unfold Uh
 simp only[Ac,Ae,Ab,Al]
 refine Ar (fun h=>?_) (fun h=>Ah (.inr ⟨_,rfl,by dsimp only;omega,g3⟩))
 have h:=of_decide_eq_true h
 refine Aj (A9 _ g3 zq4) (fun r7 ⟨_,h7c⟩=>?_)
 refine Aj (X9 _) (fun r8 _=>?_)
 refine Aj (Cq _ (Ag g3 h7c) zq4) (fun r9 ⟨_,h9c⟩=>?_)
 refine Aj (Bbj _ _ _ _ zq0) (fun r10 h10=>?_)
 refine Aj (A9 _ (Ag g3 h9c) zq4) (fun r11 ⟨_,h11c⟩=>?_)
 refine Ah (.inl ⟨_,rfl,by omega,?_,?_,by have:=Ag g3 h11c;exact this⟩)
 ·dsimp only;rw[w64 zq0];omega
 ·have:A1 (r10.1.1,r10.1.2.1,r10.1.2.2.1,())≤50*j+50:=Nat.le_trans h10 zq0
  dsimp only;omega
theorem Za {p0 p1:Int} {l:List Ap} {i:Nat} {x:Ap} {N:Nat} (h:l.length+Co Dm l≤N) (hx:Dm x≤300):A1 (p0,p1,l.set i x,())≤N+300:=by
 have:=Ah5 (f:=Dm) (l:=l) (i:=i) (x:=x)
 simp only[A1,List.length_set];omega
theorem A8w {b:List YB} {a0:Aq} (hc:Bn b a0):Tot (fun r=>A1 r.1≤600∧Bn b r.2) (Ahj a0):=by
 unfold Ahj Af0
 simp only[Ac,Ae,Ab,Al]
 refine Aj (Adh hc) (fun r1 ⟨h1,h1c⟩=>?_)
 have h1':r1.1.2.2.1.length+Co Dm r1.1.2.2.1≤250:=h1
 have hat: ∀i:Int,0≤i→i<(r1.1.2.2.1.length:Int)→Tot (fun e=>Dm e≤250) (idx r1.1.2.2.1 i):=fun i h0 hi=>
  D8 h0 hi (fun x hx=>by have:=Arh (f:=Dm) hx;omega)
 refine Ar (fun _=>Ah ⟨by dsimp only;omega,Ag hc h1c⟩) (fun hb=>?_)
 have hl:(r1.1.2.2.1.length:Int)≠0:=by simpa using hb
 refine Aj (Cr _ (Ag hc h1c) zq4) (fun r2 h2c=>?_)
 refine Ar (fun _=>Ah ⟨by dsimp only;omega,Ag hc h2c⟩) (fun _=>?_)
 refine Aj (A9 _ (Ag hc h2c) zq2) (fun r3 ⟨⟨h3,h3b⟩,h3c⟩=>?_)
 dsimp only at h3b
 have h3b:r3.1.1<(r1.1.2.2.1.length:Int):=by omega
 refine Aj (A9 _ (Ag hc h3c) zq4) (fun r4 ⟨_,h4c⟩=>?_)
 refine Ar (fun _=>?_) (fun _=>?_)
 ·exact Aj (Am1 (Ag hc h4c)) (fun r5 h5c=>Ah ⟨by simp only[A1];omega,Ag hc h5c⟩)
 refine Ar (fun _=>?_) (fun _=>?_)
 ·exact Aj (Am1 (Ag hc h4c)) (fun r5 h5c=>Aj (hat _ h3 h3b) (fun e he=>Ah ⟨Nat.le_trans (Za h1' (by simp only[Dm]at*;omega)) zq0,Ag hc h5c⟩))
 refine Ar (fun _=>?_) (fun _=>?_)
 ·exact Aj (Cq _ (Ag hc h4c) zq4) (fun r5 ⟨⟨h5,_⟩,h5c⟩=>Aj (hat _ h3 h3b) (fun e he=>Ah ⟨Nat.le_trans (Za h1' (by simp only[Dm];dsimp only at h5;omega)) zq0,Ag hc h5c⟩))
 refine Ar (fun _=>?_) (fun _=>?_)
 ·exact Aj (Bv _ (-1) 1000007 (Ag hc h4c) zq4 zq4) (fun r5 ⟨_,h5c⟩=>Aj (hat _ h3 h3b) (fun e he=>Ah ⟨Nat.le_trans (Za h1' (by simp only[Dm]at*;omega)) zq0,Ag hc h5c⟩))
 refine Ar (fun _=>?_) (fun _=>?_)
 ·exact Aj (hat _ h3 h3b) (fun e he=>Ah ⟨by simp only[A1];omega,Ag hc h4c⟩)
 ·exact Ah ⟨by dsimp only;omega,Ag hc h4c⟩
theorem A21 (p:YBs) (id:YI) (f:Ch) (h:Da f≤1000):Tot (fun r=>Da r.1≤Da f+100∧(wfB f.2.2.2.1→wfB r.1.2.2.2.1)) (Xh p id f):=by
 unfold Xh Wg
 simp only[Ac,Ae,Ab,Al]
 rw[Aya,Ai]
 refine Ar (fun _=>Ah ⟨by simp[Da],fun _=>Fr⟩) (fun _=>?_)
 refine Ar (fun _=>Ah ⟨by simp[Da],fun _=>Fr⟩) (fun _=>?_)
 have hp:=Bbd p.1 id.1 f.2.2.1 f.2.2.2.1 f.2.2.2.2.1 f.2.2.2.2.2.1
 rw[show Aaf p id (f.2.2.1,()) (f.2.2.2.1,()) (f.2.2.2.2.1,()) (f.2.2.2.2.2.1,())=_ from Bfo p.1 id.1 _ _ _ _,Ai]
 refine Ar (fun _=>Ah ⟨by simp[Da],fun _=>Fr⟩) (fun _=>?_)
 rw[Bdh _ zq0,Ai]
 simp only[Da]at h
 exact Ah ⟨by simp only[Da,List.length_nil];omega,fun h=>h⟩
theorem A5r (p:YBs) (n:YI) (a:Bi) (f:Ch) (h:Da f≤500) (hw:wfB f.2.2.2.1):Tot (SP 1200) (Acy p n a f):=by
 have zero:Tot (SP 1200) (some ((0,[],[],0,[],0,[],0,0,[],0,[],0,0,[],false,0,[],0,0,[],0,0,false,()):Ad)):=Ah ⟨by simp[Aw,Co],Fr,Fr⟩
 have hcn:f.2.2.1.length≤Da f:=by simp only[Da];omega
 have hsn:f.2.2.2.1.length≤Da f:=by simp only[Da];omega
 unfold Acy Abl
 simp only[Ac,Ae,Ab,Al,List.length_nil,List.nil_append,Nat.zero_add]
 refine Aj (Bbg _) (fun _ _=>Ar (fun _=>zero) (fun _=>?_))
 rw[Df,Ai]
 refine Ar (fun _=>zero) (fun _=>?_)
 refine Aj (A8u _) (fun _ _=>Ar (fun _=>zero) (fun _=>?_))
 rw[Aya,Ai]
 refine Ar (fun _=>zero) (fun _=>Ar (fun _=>zero) (fun _=>?_))
 refine Dh (An zq0) (Dh (An zq0) ?_)
 obtain⟨p,⟨⟩⟩:=p
 rw[A8j,Ai]
 refine Aj (Apu _ _ _ zq2) (fun r6 ⟨h6,h6w⟩=>?_)
 refine Aj (Am2 _) (fun r7 h7=>?_)
 exact Ah (M6 (A:=500) (B:=500) (C:=100) (D:=0) zq0 zq0 h6 h7 hw (h6w hw) zq4)
theorem Tc {b:List YB} {a0:Aq} (hc:Bn b a0):Tot (fun r=>SP 4500 r.1∧Bn b r.2) (Ku a0):=by
 unfold Ku Abv
 simp only[Ac,Ae,Ab,Al]
 refine Aj (Cq _ hc zq4) (fun r1 ⟨_,h1c⟩=>?_)
 refine Aj (A9 _ (Ag hc h1c) zq4) (fun r2 ⟨_,h2c⟩=>?_)
 refine Aj (Az9 (Ag hc h2c)) (fun r3 ⟨⟨h3,h3w⟩,h3c⟩=>?_)
 refine Aj (Q:=fun q=>Da q.1≤500∧wfB q.1.2.2.2.1) ?_ (fun r4 ⟨h4,h4w⟩=>?_)
 ·refine(A21 _ _ _ zq0).mono (fun q hq=>⟨?_,hq.2 h3w⟩)
  exact Nat.le_trans hq.1 zq0
 refine Aj (Cq _ (Ag hc h3c) zq4) (fun r5 ⟨_,h5c⟩=>?_)
 refine Aj (Bv _ 0 90 (Ag hc h5c) zq4 zq4) (fun r6 ⟨_,h6c⟩=>?_)
 refine Aj (A9 _ (Ag hc h6c) zq4) (fun r7 ⟨_,h7c⟩=>?_)
 refine Aj (X9 _) (fun r8 _=>?_)
 refine Aj (A5r _ _ _ _ h4 h4w) (fun r9 h9=>?_)
 obtain⟨k1,k2,k3,k4⟩:=Aib h9
 refine Aj (Cr _ (Ag hc h7c) zq4) (fun r10 h10c=>?_)
 refine Ar (fun _=>?_) (fun _=>?_)
 ·refine Aj (Apv _ (Ag hc h10c)) (fun r11 ⟨⟨h11,h11w⟩,h11c⟩=>?_)
  have h11s:r11.1.2.1.length≤400:=Nat.le_trans (by simp only[Bs];omega) h11
  refine Aj (Cr _ (Ag hc h11c) zq4) (fun r12 h12c=>?_)
  refine Ar (fun _=>?_) (fun _=>?_)
  ·refine Aj (Adh (Ag hc h12c)) (fun r13 ⟨h13,h13c⟩=>?_)
   exact Ah ⟨M6 k1 h11s h11 h13 h11w h11w zq4,Ag hc h13c⟩
  ·exact Ah ⟨M6 k1 h11s h11 k4 h11w h11w zq4,Ag hc h12c⟩
 ·refine Aj (Cr _ (Ag hc h10c) zq4) (fun r14 h14c=>?_)
  refine Ar (fun _=>?_) (fun _=>?_)
  ·refine Aj (Adh (Ag hc h14c)) (fun r15 ⟨h15,h15c⟩=>?_)
   exact Ah ⟨M6 k1 k2 k3 h15 h9.2.1 h9.2.2 zq4,Ag hc h15c⟩
  ·exact Ah ⟨⟨Nat.le_trans h9.1 zq4,h9.2⟩,Ag hc h14c⟩
end
end Go.Proofs.YtfljmgnghlpapaaGreat
