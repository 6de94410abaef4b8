/-
  That the program and the reference answer alike, in plain terms, and that the laws answer true.
-/
import Derived.Test.YtfljmgnghlpapaaGreatL80
namespace Go.Proofs.YtfljmgnghlpapaaGreat
open Go.RowKit
set_option linter.unusedVariables false
set_option linter.unusedSimpArgs false
set_option maxRecDepth 100000
set_option maxHeartbeats 4000000
noncomputable section
theorem A5w {b:List YB} {a0:Aq} (hc:Bn b a0):Tot (fun r=>(PP 5 r.1.1∧r.1.2.1.length≤64∧r.1.2.2.1.length≤64∧TP 30 20000 (r.1.2.2.2.2.1,r.1.2.2.2.2.2.1,())∧r.1.2.2.2.2.2.2.1.length≤40)∧Bn b r.2) (Ac1 a0):=by
 unfold Ac1 Ab7
 simp only[Ac,Ae,Ab,Al]
 refine Aj (A5v hc) (fun r1 ⟨h1,h1c⟩=>?_)
 refine Aj (Cq _ (Ag hc h1c) zq4) (fun r2 ⟨⟨h2,_⟩,h2c⟩=>?_)
 refine Aj (A9 _ (Ag hc h2c) zq4) (fun r3 ⟨_,h3c⟩=>?_)
 have h2':r2.1.1.length=8:=h2
 refine Aj (Awf _ _ _ ⟨by omega,h1.2⟩ zq0) (fun r4 ⟨h4a,h4b,h4c,h4d⟩=>?_)
 refine Aj (Apx (Ag hc h3c)) (fun r5 ⟨h5,h5c⟩=>?_)
 refine Aj (Q:=fun o:(List YB)×Int×Int×(List YBs)×(List YB)×(List YB)×Int×Int×(List Ad)×(List Ak)×(List YBs)×(List YB)×(List YB)×Int×Int×(List Ad)×(List Ak)×Unit=>(PP 5 o.2.2.2.2.2.2.2.2.2.2.1∧o.2.2.2.2.2.2.2.2.2.2.2.1.length≤32∧o.2.2.2.2.2.2.2.2.2.2.2.2.1.length≤32∧TP 6 20000 (o.2.2.2.2.2.2.2.2.2.2.2.2.2.2.1,o.2.2.2.2.2.2.2.2.2.2.2.2.2.2.2.1,()))∧o.1=a0.1∧Bn b (o.1,o.2.1,o.2.2.1,())) ?_ (fun o ⟨⟨o1,o2,o3,o4⟩,o5,o6⟩=>?_)
 ·have h5l:=h5.1
  refine Amz (fun i d=>d.1=(i:Int)∧d.2.2.2.2.2.2.2.2.2.2.2.2.2.2.2.2.2.2.2.1=r5.1.2.1∧(PP 5 d.2.2.2.2.2.2.2.2.2.2.2.1∧d.2.2.2.2.2.2.2.2.2.2.2.2.1.length≤32∧d.2.2.2.2.2.2.2.2.2.2.2.2.2.1.length≤32∧TP i 20000 (d.2.2.2.2.2.2.2.2.2.2.2.2.2.2.2.1,d.2.2.2.2.2.2.2.2.2.2.2.2.2.2.2.2.1,()))∧d.2.1=a0.1∧Bn b (d.2.1,d.2.2.1,d.2.2.2.1,())) _ r5.1.2.1.length ?_ ?_ ⟨rfl,rfl,⟨h4a,h4b,h4c,⟨by dsimp only;omega,fun x hx=>by have:r4.2.2.2.2.2.1=[]:=List.eq_nil_of_length_eq_zero h4d;dsimp only at hx;rw[this]at hx;cases hx⟩⟩,rfl,Ag hc h5c⟩
  ·rintro i ⟨k,c1,c2,c3,z0,z1,z2,z3,z4,z5,z6,s0,s1,s2,s3,s4,s5,s6,tc,tl,⟨⟩⟩ hi ⟨q1,q2,⟨q3,q4,q5,q6⟩,q7,q8⟩
   dsimp only at q1 q2 q3 q4 q5 q6 q7 q8
   subst q1 q2 q7
   unfold Og
   simp only[Ac,Ae,Ab,Al]
   rw[An zq0,A4]
   have hnx:IntKind.i64.wrap ((i:Int)+1)=((i+1:Nat):Int):=by rw[w64 zq0];omega
   have at_: ∀ {β:Type} {P:β→Prop} {f:Ad→Option β},(∀e,SP 20000 e→Tot P (f e))→Tot P (ob (idx r5.1.2.1 (i:Int)) f):=fun hf=>Aj (D8 zq0 zq0 (fun x hx=>h5.2 x hx)) (fun e he=>hf e he)
   refine at_ fun e7 h7=>Ar (fun _=>?_) (fun _=>?_)
   ·refine at_ fun e8 h8=>Aj (Am4 (M:=i) (K:=20000) _ _ q6 h8 zq0) (fun r9 h9=>?_)
    exact Ah ⟨_,rfl,hnx,rfl,⟨q3,q4,q5,h9⟩,rfl,q8⟩
   ·exact Ah ⟨_,rfl,hnx,rfl,⟨q3,q4,q5,q6.le zq0 (Nat.le_refl _)⟩,rfl,q8⟩
  ·rintro⟨k,c1,c2,c3,z0,z1,z2,z3,z4,z5,z6,s0,s1,s2,s3,s4,s5,s6,tc,tl,⟨⟩⟩ ⟨q1,q2,⟨q3,q4,q5,q6⟩,q7,q8⟩
   dsimp only at q1 q2 q3 q4 q5 q6 q7 q8
   subst q1 q2
   unfold Og
   simp only[Ac,Ae,Ab,Al]
   rw[Bj zq0,Au]
   exact Ah ⟨_,rfl,⟨q3,q4,q5,q6.le zq0 (Nat.le_refl _)⟩,q7,q8⟩
 ·refine Aj (Apy ((6:Int),()) o6 zq4) (fun r11 ⟨h11,h11c⟩=>?_)
  refine Aj (A9 _ (Ag o6 h11c) zq4) (fun r12 ⟨_,h12c⟩=>?_)
  exact Ah ⟨⟨o1,by dsimp only;omega,by dsimp only;omega,o4.le zq4 zq4,by dsimp only;omega⟩,Ag o6 h12c⟩
theorem Aid {b:List YB} {a0:Aq} (hc:Bn b a0):Tot (fun r=>SvP r.1∧Bn b r.2) (Qe a0):=by
 unfold Qe Af4
 simp only[Ac,Ae,Ab,Al]
 refine Aj (A5w hc) (fun r1 ⟨⟨g1,g2,g3,g4,g5⟩,h1c⟩=>?_)
 have p1:PP 10 r1.1.1:=⟨Nat.le_trans g1.1 zq4,g1.2⟩
 have p4:TP 40 40000 (r1.1.2.2.2.2.1,r1.1.2.2.2.2.2.1,()):=g4.le zq4 zq4
 have g1l:=g1.1
 have g4l:=g4.1
 dsimp only at g4l
 refine Aj (A9 _ (Ag hc h1c) zq4) (fun r2 ⟨_,h2c⟩=>?_)
 have h2c':=Ag hc h2c
 refine Ar (fun _=>?_) (fun _=>?_)
 ·refine Aj (A86 _ _ h2c' ⟨by simp,fun x hx=>?_⟩ g1) (fun r3 ⟨h3,h3c⟩=>Ah ⟨⟨⟨Nat.le_trans h3.1 zq4,h3.2⟩,g2,g3,p4,g5⟩,Ag hc h3c⟩)
  simp only[List.mem_cons,List.not_mem_nil,or_false]at hx
  rcases hx with rfl|rfl<;>simp
 refine Ar (fun _=>?_) (fun _=>?_)
 ·exact Aj (A85 h2c') (fun r3 ⟨h3,h3c⟩=>Ah ⟨⟨p1,by dsimp only;omega,g3,p4,g5⟩,Ag hc h3c⟩)
 refine Ar (fun _=>?_) (fun _=>?_)
 ·exact Aj (Jm _ h2c' zq4) (fun r3 h3c=>Ah ⟨⟨p1,g2,g3,p4,g5⟩,Ag hc h3c⟩)
 refine Ar (fun _=>?_) (fun _=>?_)
 ·exact Aj (A82 h2c') (fun r3 ⟨h3,h3c⟩=>Ah ⟨⟨p1,g2,g3,h3.le zq4 zq4,g5⟩,Ag hc h3c⟩)
 refine Ar (fun _=>?_) (fun _=>?_)
 ·exact Aj (A84 h2c') (fun r3 ⟨h3,h3c⟩=>Ah ⟨⟨p1,g2,g3,p4,by dsimp only;omega⟩,Ag hc h3c⟩)
 refine Ar (fun _=>?_) (fun _=>?_)
 ·refine Dh (An zq1) (Ah ⟨⟨⟨by simp;omega,fun x hx=>?_⟩,g2,g3,p4,g5⟩,h2c'⟩)
  rcases List.mem_append.1 hx with hx|hx
  ·exact g1.2 x hx
  ·simp only[List.mem_singleton]at hx;rw[hx];simp
 refine Ar (fun _=>?_) (fun _=>Ah ⟨⟨p1,g2,g3,p4,g5⟩,h2c'⟩)
 refine Aj (Tc h2c') (fun r8 ⟨h8,h8c⟩=>?_)
 refine Aj (T4 _ h8 zq4) (fun r9 h9=>?_)
 refine Dh (An zq1) (Ah ⟨⟨p1,g2,g3,⟨by simp;omega,fun x hx=>?_⟩,g5⟩,Ag hc h8c⟩)
 dsimp only at hx
 rcases List.mem_append.1 hx with hx|hx
 ·exact p4.2 x hx
 ·simp only[List.mem_singleton]at hx;rw[hx];exact h9.le zq4
theorem Ajz (a0:YBs) (hl:a0.1.length≤1048576):Tot (fun r=>SvP r.1) (K0 a0):=by
 unfold K0 Kz
 simp only[Ac,Ae,Ab,Al]
 refine Aj (Am0 a0 hl) (fun r1 hc=>?_)
 refine Aj (Aid hc) (fun r2 ⟨h2,h2c⟩=>?_)
 have hl2:=h2.2.2.2.1.1
 dsimp only at hl2
 exact Aj (A9 _ (Ag hc h2c) (by dsimp only;rw[w64 zq0];omega)) (fun r3 _=>Ah h2)
theorem Am5 (a0:YBs) (hl:a0.1.length≤1048576):Tot (fun r=>SvP r.1) (L5 a0):=by
 unfold L5 Ls
 simp only[Ac,Ae,Ab,Al]
 refine Aj (Am0 a0 hl) (fun r1 hc=>?_)
 refine Aj (Aid hc) (fun r2 ⟨h2,h2c⟩=>?_)
 exact Aj (Jm _ (Ag hc h2c) zq4) (fun r3 _=>Ah h2)
end
end Go.Proofs.YtfljmgnghlpapaaGreat
