/-
  That the program and the reference answer alike, in plain terms, and that the laws answer true.
-/
import Derived.Test.YtmhhajdeafijmaaGreatL45
namespace Go.Proofs.YtmhhajdeafijmaaGreat
open Go.RowKit
set_option linter.unusedVariables false
set_option linter.unusedSimpArgs false
set_option maxRecDepth 100000
set_option maxHeartbeats 16000000
noncomputable section
theorem Bc9 {x0 x1 x2 x3 x4 x5 x6 x7 x8 x9 x10 x11 x12 x13 x14 x15 x16 x17 x18 x19 x20 x21 x22 x23 x24 x25 x26 x27 x28 x29 x30 x31 x32 x33 x34 x35 x36 x37 x38 x39 x40 t0 t1 t2 t3}:Al (x0,x1,x2,x3,x4,x5,x6,x7,x8,x9,x10,x11,x12,x13,x14,x15,x16,x17,x18,x19,x20,x21,x22,x23,x24,x25,x26,x27,x28,x29,x30,x31,t0,t1,t2,t3,x36,x37,x38,x39,x40,())=Al (x0,x1,x2,x3,x4,x5,x6,x7,x8,x9,x10,x11,x12,x13,x14,x15,x16,x17,x18,x19,x20,x21,x22,x23,x24,x25,x26,x27,x28,x29,x30,x31,x32,x33,x34,x35,x36,x37,x38,x39,x40,()):=by simp only[Al]
theorem A7g (c:Ab) (x:A9):Al (c.1,c.2.1,c.2.2.1,c.2.2.2.1,c.2.2.2.2.1,c.2.2.2.2.2.1,c.2.2.2.2.2.2.1,c.2.2.2.2.2.2.2.1,c.2.2.2.2.2.2.2.2.1,c.2.2.2.2.2.2.2.2.2.1,c.2.2.2.2.2.2.2.2.2.2.1,c.2.2.2.2.2.2.2.2.2.2.2.1,c.2.2.2.2.2.2.2.2.2.2.2.2.1,c.2.2.2.2.2.2.2.2.2.2.2.2.2.1,c.2.2.2.2.2.2.2.2.2.2.2.2.2.2.1,c.2.2.2.2.2.2.2.2.2.2.2.2.2.2.2.1,c.2.2.2.2.2.2.2.2.2.2.2.2.2.2.2.2.1,c.2.2.2.2.2.2.2.2.2.2.2.2.2.2.2.2.2.1,c.2.2.2.2.2.2.2.2.2.2.2.2.2.2.2.2.2.2.1,c.2.2.2.2.2.2.2.2.2.2.2.2.2.2.2.2.2.2.2.1,c.2.2.2.2.2.2.2.2.2.2.2.2.2.2.2.2.2.2.2.2.1,c.2.2.2.2.2.2.2.2.2.2.2.2.2.2.2.2.2.2.2.2.2.1,c.2.2.2.2.2.2.2.2.2.2.2.2.2.2.2.2.2.2.2.2.2.2.1,c.2.2.2.2.2.2.2.2.2.2.2.2.2.2.2.2.2.2.2.2.2.2.2.1,c.2.2.2.2.2.2.2.2.2.2.2.2.2.2.2.2.2.2.2.2.2.2.2.2.1,c.2.2.2.2.2.2.2.2.2.2.2.2.2.2.2.2.2.2.2.2.2.2.2.2.2.1,c.2.2.2.2.2.2.2.2.2.2.2.2.2.2.2.2.2.2.2.2.2.2.2.2.2.2.1,c.2.2.2.2.2.2.2.2.2.2.2.2.2.2.2.2.2.2.2.2.2.2.2.2.2.2.2.1,c.2.2.2.2.2.2.2.2.2.2.2.2.2.2.2.2.2.2.2.2.2.2.2.2.2.2.2.2.1,c.2.2.2.2.2.2.2.2.2.2.2.2.2.2.2.2.2.2.2.2.2.2.2.2.2.2.2.2.2.1,c.2.2.2.2.2.2.2.2.2.2.2.2.2.2.2.2.2.2.2.2.2.2.2.2.2.2.2.2.2.2.1,c.2.2.2.2.2.2.2.2.2.2.2.2.2.2.2.2.2.2.2.2.2.2.2.2.2.2.2.2.2.2.2.1,x.1,x.2.1,x.2.2.1,x.2.2.2.1,c.2.2.2.2.2.2.2.2.2.2.2.2.2.2.2.2.2.2.2.2.2.2.2.2.2.2.2.2.2.2.2.2.2.2.2.2.1,c.2.2.2.2.2.2.2.2.2.2.2.2.2.2.2.2.2.2.2.2.2.2.2.2.2.2.2.2.2.2.2.2.2.2.2.2.2.1,c.2.2.2.2.2.2.2.2.2.2.2.2.2.2.2.2.2.2.2.2.2.2.2.2.2.2.2.2.2.2.2.2.2.2.2.2.2.2.1,c.2.2.2.2.2.2.2.2.2.2.2.2.2.2.2.2.2.2.2.2.2.2.2.2.2.2.2.2.2.2.2.2.2.2.2.2.2.2.2.1,c.2.2.2.2.2.2.2.2.2.2.2.2.2.2.2.2.2.2.2.2.2.2.2.2.2.2.2.2.2.2.2.2.2.2.2.2.2.2.2.2.1,())≤Al c:=by
 simp only[Al,As,Ar,List.length_nil];omega
theorem Bb7 (c:Ab):Al (c.1,c.2.1,c.2.2.1,c.2.2.2.1,c.2.2.2.2.1,c.2.2.2.2.2.1,c.2.2.2.2.2.2.1,c.2.2.2.2.2.2.2.1,c.2.2.2.2.2.2.2.2.1,c.2.2.2.2.2.2.2.2.2.1,c.2.2.2.2.2.2.2.2.2.2.1,c.2.2.2.2.2.2.2.2.2.2.2.1,c.2.2.2.2.2.2.2.2.2.2.2.2.1,c.2.2.2.2.2.2.2.2.2.2.2.2.2.1,c.2.2.2.2.2.2.2.2.2.2.2.2.2.2.1,c.2.2.2.2.2.2.2.2.2.2.2.2.2.2.2.1,c.2.2.2.2.2.2.2.2.2.2.2.2.2.2.2.2.1,c.2.2.2.2.2.2.2.2.2.2.2.2.2.2.2.2.2.1,c.2.2.2.2.2.2.2.2.2.2.2.2.2.2.2.2.2.2.1,c.2.2.2.2.2.2.2.2.2.2.2.2.2.2.2.2.2.2.2.1,c.2.2.2.2.2.2.2.2.2.2.2.2.2.2.2.2.2.2.2.2.1,c.2.2.2.2.2.2.2.2.2.2.2.2.2.2.2.2.2.2.2.2.2.1,c.2.2.2.2.2.2.2.2.2.2.2.2.2.2.2.2.2.2.2.2.2.2.1,c.2.2.2.2.2.2.2.2.2.2.2.2.2.2.2.2.2.2.2.2.2.2.2.1,c.2.2.2.2.2.2.2.2.2.2.2.2.2.2.2.2.2.2.2.2.2.2.2.2.1,c.2.2.2.2.2.2.2.2.2.2.2.2.2.2.2.2.2.2.2.2.2.2.2.2.2.1,c.2.2.2.2.2.2.2.2.2.2.2.2.2.2.2.2.2.2.2.2.2.2.2.2.2.2.1,c.2.2.2.2.2.2.2.2.2.2.2.2.2.2.2.2.2.2.2.2.2.2.2.2.2.2.2.1,c.2.2.2.2.2.2.2.2.2.2.2.2.2.2.2.2.2.2.2.2.2.2.2.2.2.2.2.2.1,c.2.2.2.2.2.2.2.2.2.2.2.2.2.2.2.2.2.2.2.2.2.2.2.2.2.2.2.2.2.1,c.2.2.2.2.2.2.2.2.2.2.2.2.2.2.2.2.2.2.2.2.2.2.2.2.2.2.2.2.2.2.1,c.2.2.2.2.2.2.2.2.2.2.2.2.2.2.2.2.2.2.2.2.2.2.2.2.2.2.2.2.2.2.2.1,c.2.2.2.2.2.2.2.2.2.2.2.2.2.2.2.2.2.2.2.2.2.2.2.2.2.2.2.2.2.2.2.2.1,c.2.2.2.2.2.2.2.2.2.2.2.2.2.2.2.2.2.2.2.2.2.2.2.2.2.2.2.2.2.2.2.2.2.1,c.2.2.2.2.2.2.2.2.2.2.2.2.2.2.2.2.2.2.2.2.2.2.2.2.2.2.2.2.2.2.2.2.2.2.1,c.2.2.2.2.2.2.2.2.2.2.2.2.2.2.2.2.2.2.2.2.2.2.2.2.2.2.2.2.2.2.2.2.2.2.2.1,c.2.2.2.2.2.2.2.2.2.2.2.2.2.2.2.2.2.2.2.2.2.2.2.2.2.2.2.2.2.2.2.2.2.2.2.2.1,c.2.2.2.2.2.2.2.2.2.2.2.2.2.2.2.2.2.2.2.2.2.2.2.2.2.2.2.2.2.2.2.2.2.2.2.2.2.1,c.2.2.2.2.2.2.2.2.2.2.2.2.2.2.2.2.2.2.2.2.2.2.2.2.2.2.2.2.2.2.2.2.2.2.2.2.2.2.1,c.2.2.2.2.2.2.2.2.2.2.2.2.2.2.2.2.2.2.2.2.2.2.2.2.2.2.2.2.2.2.2.2.2.2.2.2.2.2.2.1,c.2.2.2.2.2.2.2.2.2.2.2.2.2.2.2.2.2.2.2.2.2.2.2.2.2.2.2.2.2.2.2.2.2.2.2.2.2.2.2.2.1,())≤Al c:=by
 simp only[Al,As,Ar,List.length_nil];omega
theorem A16 {b:List YB} {a0:A7} (hc:Ck b a0):Tot (fun r=>(Al r.1≤20000∧wfB (Bm r.1).2.1)∧Ck b r.2) (Mz a0):=by
 unfold Mz Mq
 simp only[Ag,Ai,Ad,Ao,List.length_nil,List.nil_append,Nat.zero_add]
 refine Aq (Ch _ hc zq9) (fun r1 ⟨⟨hr11,hr12⟩,hr1c⟩=>?_)
 refine Aq (Ch _ (Ap hc hr1c) zq9) (fun r2 ⟨⟨hr21,hr22⟩,hr2c⟩=>?_)
 have hw2:=w64 (n:=1+r2.1.1) zq0
 refine Aq (Dg _ (Ap hc hr2c) zq9) (fun r3 ⟨⟨hr31,hr32⟩,hr3c⟩=>?_)
 refine Aq (Ch _ (Ap hc hr3c) zq9) (fun r4 ⟨⟨hr41,hr42⟩,hr4c⟩=>?_)
 refine Aq (A80 _) (fun r5 _=>?_)
 refine Aq (Axh _ _ _ zq9) (fun r6 ⟨hr61,hr62⟩=>?_)
 refine Aq (C9 _ (0) (3) (Ap hc hr4c) zq4 zq4) (fun r7 ⟨⟨hr71,hr72⟩,hr7c⟩=>?_)
 refine Ax (fun hb7=>?_) (fun hb7=>?_)
 ·have hd7:=eq_of_beq hb7
  exact Ak ⟨⟨by(first|omega|(dsimp only;omega)),Alt⟩,(Ap hc hr7c)⟩
 ·refine Aq (C9 _ (0) (90) (Ap hc hr7c) zq4 zq4) (fun r8 ⟨⟨hr81,hr82⟩,hr8c⟩=>?_)
  refine Aq (Dg _ (Ap hc hr8c) zq9) (fun r9 ⟨⟨hr91,hr92⟩,hr9c⟩=>?_)
  refine Aq (A7e 1000 _ _ _ zq0 zq0 Ap9) (fun r10 ⟨hr101,hr102⟩=>?_)
  refine Aq (Ch _ (Ap hc hr9c) zq9) (fun r11 ⟨⟨hr111,hr112⟩,hr11c⟩=>?_)
  refine Aq (Ua _ _) (fun r12 _=>?_)
  refine Ax (fun hb15=>?_) (fun hb15=>?_)
  ·have hd15:=eq_of_beq hb15
   exact Ak ⟨⟨Nat.le_trans (A7g r10.1 r12.1) zq0,Alt⟩,(Ap hc hr11c)⟩
  ·refine Aq (Ajy (Ap hc hr11c)) (fun r13 ⟨⟨hr131,hr132⟩,hr13c⟩=>?_)
   refine Aq (Afl 3000 4000 _ _ _ (Nat.le_trans (A7g r10.1 r12.1) zq0) (Nat.le_trans (Asr r13.1 _) (by have:=Baw r10.1;omega)) zq0 zq0 Ap9 Ap9) (fun r14 ⟨hr141,hr142⟩=>?_)
   refine Ax (fun hb20=>?_) (fun hb20=>?_)
   ·have hd20:=eq_of_beq hb20
    refine Aq (Ch _ (Ap hc hr13c) zq9) (fun r15 ⟨⟨hr151,hr152⟩,hr15c⟩=>?_)
    refine Aq (A15 5 zq0 _ zq2 (Ap hc hr15c) (Nat.le_trans (Bb7 r14.1) zq0) Ap9) (fun o18 ⟨ho181,ho182,ho18c⟩=>?_)
    refine Ax (fun hb24=>?_) (fun hb24=>?_)
    ·refine Aq (Pz _) (fun r19 _=>?_)
     exact Ak ⟨⟨by(have hq:=ho181;dsimp only at hq ⊢;exact Nat.le_trans (Nat.le_of_eq Bc9) (Nat.le_trans hq zq0)),Alt⟩,ho18c⟩
    ·exact Ak ⟨⟨by(have hq:=ho181;dsimp only at hq ⊢;omega),Alt⟩,ho18c⟩
   ·refine Aq (Axg _) (fun r20 hr201=>?_)
    refine Aq (A7f 7500 _ _ _ _ _ _ _ (by have:=A26 r14.1;dsimp only;omega) zq0 Ap9 (by have:=A26 r14.1;dsimp only;omega)) (fun r21 ⟨hr211,hr212⟩=>?_)
    refine Aq (Afl 8000 8000 _ _ _ zq0 zq0 zq0 zq0 Ap9 Ap9) (fun r22 ⟨hr221,hr222⟩=>?_)
    refine Aq (Cw _ (Ap hc hr13c) zq9) (fun r23 hr23c=>?_)
    refine Ax (fun hb32=>?_) (fun hb32=>?_)
    ·refine Aq (A14 _ (Ap hc hr23c)) (fun r24 ⟨⟨hr241,hr242⟩,hr24c⟩=>?_)
     refine Ax (fun hb34=>?_) (fun hb34=>?_)
     ·have hd34:=of_decide_eq_true hb34
      refine Aq (A11 _ (Ap hc hr24c)) (fun r25 hr25c=>?_)
      refine Ax (fun hb37=>?_) (fun hb37=>?_)
      ·refine Aq (Pz _) (fun r26 _=>?_)
       exact Ak ⟨⟨Nat.le_trans (Aio r22.1 r24.1 _ _ _ _ _ _ _ _ _) zq0,Alt⟩,(Ap hc hr25c)⟩
      ·exact Ak ⟨⟨Nat.le_trans (Aio r22.1 r24.1 _ _ _ _ _ _ _ _ _) zq0,Alt⟩,(Ap hc hr25c)⟩
     ·have hd34:=of_decide_eq_false hb34
      exact Ak ⟨⟨Nat.le_trans (Aio r22.1 r24.1 _ _ _ _ _ _ _ _ _) zq0,Alt⟩,(Ap hc hr24c)⟩
    ·exact Ak ⟨⟨by(first|omega|(dsimp only;omega)),Alt⟩,(Ap hc hr23c)⟩

end
end Go.Proofs.YtmhhajdeafijmaaGreat
