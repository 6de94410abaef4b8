/-
  That the program and the reference answer alike, in plain terms, and that the laws answer true.
-/
import Derived.Test.YthccfdmiejmbaaaDoorL112
namespace Go.Proofs.YthccfdmiejmbaaaDoor
open Go.RowKit
set_option linter.unusedVariables false
set_option linter.unusedSimpArgs false
set_option maxRecDepth 100000
set_option maxHeartbeats 8000000
noncomputable section
theorem Ue {b:List YB} {a0:Aq} (hc:Cc b a0):Tot (fun r=>r.1.2.2.2.2.1.length<=300/\Cc b r.2) (J8 a0):=by
 unfold J8 Nr
 simp only[Am,Ar,Ad,Aw]
 refine Aj (Jl hc) (fun r1 ⟨h1,h1c⟩=>?_)
 refine Aj (Bn _ (Ah hc h1c) zq3) (fun r2 ⟨_,h2c⟩=>?_)
 refine B4 (fun _=>?_) (fun _=>?_)
 .refine Aj (Wp (Ah hc h2c)) (fun r3 h3c=>?_)
  exact Ao ⟨h1,Ah hc h3c⟩
 .refine B4 (fun _=>?_) (fun _=>?_)
  .refine Aj (Wp (Ah hc h2c)) (fun r4 h4c=>?_)
   exact Ao ⟨h1,Ah hc h4c⟩
  .refine B4 (fun _=>?_) (fun _=>?_)
   .refine Aj (Bj _ (Ah hc h2c) zq3) (fun r5 ⟨⟨h5,_⟩,h5c⟩=>?_)
    exact Ao ⟨by dsimp only;rw[h5];decide,Ah hc h5c⟩
   .exact Ao ⟨h1,Ah hc h2c⟩
def WsP (n:Nat) (l:List Ag):Prop:=l.length<=n/\ ∀w∈l,w.2.2.2.2.1.length<=300
theorem Sx {l:List Ag} {n:Nat} {w:Ag} (h: ∀z∈l,z.2.2.2.2.1.length<=300) (hw:w.2.2.2.2.1.length<=300): ∀z∈l++[w],z.2.2.2.2.1.length<=300:=
 fun z hz=>Afj (P:=fun z:Ag=>z.2.2.2.2.1.length<=300) h hw hz
theorem Aea {b:List YB} (n:Int) (c1:List YB) (c2 c3:Int) (hn:n<=20) (hc:Cc b (c1,c2,c3,())):
  Tot (fun o:(List Ag)×(List YB)×Int×Int×Unit=>WsP 20 o.1/\Cc b (o.2.1,o.2.2.1,o.2.2.2.1,())) (Ay Fg (([]:List Ag),n,c1,c2,c3,())):=by
 refine Oe (fun j d=>d.1.length=j/\(∀w∈d.1,w.2.2.2.2.1.length<=300)/\d.2.1=n-j/\Cc b (d.2.2.1,d.2.2.2.1,d.2.2.2.2.1,())) _ 20 ?_ ⟨rfl,fun w hw=>(by cases hw),by simp,hc⟩
 rintro j ⟨l,i,e1,e2,e3,⟨⟩⟩ hj ⟨g1,g2,g3,g4⟩
 dsimp only at g1 g2 g3 g4
 unfold Fg
 simp only[Am,Ar,Ad,Aw]
 refine B4 (fun h=>?_) (fun h=>Ao (.inr ⟨_,rfl,⟨by dsimp only;omega,g2⟩,g4⟩))
 have h:=of_decide_eq_true h
 refine Aj (Jl g4) (fun q ⟨q1,q2⟩=>Hr (Al zq0) (Ao (.inl ⟨_,rfl,by omega,by simp;omega,Sx (n:=0) g2 q1,?_,?_⟩)))
 .dsimp only
  rw[w64 zq1]
  omega
 .have:=Ah g4 q2
  exact this
theorem Uf {b:List YB} (l:List Ag) (n:Int) (c1:List YB) (c2 c3:Int) (w:Ag) (hl:WsP 30 l) (hn:n<=91) (hw:w.2.2.2.2.1.length<=300) (hc:Cc b (c1,c2,c3,())):
  Tot (fun o:(List Ag)×(List YB)×Int×Int×Unit=>WsP 130 o.1/\Cc b (o.2.1,o.2.2.1,o.2.2.2.1,())) (Ay Dq (l,n,c1,c2,c3,w.1,w.2.1,w.2.2.1,w.2.2.2.1,w.2.2.2.2.1,())):=by
 refine Oe (fun j d=>d.1.length=l.length+j/\(∀w∈d.1,w.2.2.2.2.1.length<=300)/\d.2=(n,c1,c2,c3,w.1,w.2.1,w.2.2.1,w.2.2.2.1,w.2.2.2.2.1,())) _ 100 ?_ ⟨by simp,hl.2,rfl⟩
 rintro j ⟨l',d⟩ hj ⟨g1,g2,g3⟩
 dsimp only at g1 g2 g3
 subst g3
 have h0:=hl.1
 unfold Dq
 simp only[Am,Ar,Ad,Aw]
 refine B4 (fun h=>?_) (fun h=>Ao (.inr ⟨_,rfl,⟨by dsimp only;omega,g2⟩,hc⟩))
 have h:=of_decide_eq_true h
 refine Hr (Al zq0) (Ao (.inl ⟨_,rfl,by omega,by simp;omega,Sx (n:=0) g2 hw,rfl⟩))
theorem R5 {b:List YB} {a0:Aq} (n:YI) (h0:0<=n.1) (hn:n.1<=10) (hc:Cc b a0):Tot (fun r=>WsP 130 r.1.1/\Cc b r.2) (Jk a0 n):=by
 unfold Jk Jf
 simp only[Am,Ar,Ad,Aw]
 have e:IntKind.i64.wrap (n.1+1)=n.1+1:=w64 zq1
 refine Aj (Bn _ hc (by dsimp only;rw[e];omega)) (fun r1 ⟨h1,h1c⟩=>?_)
 dsimp only at h1
 rw[e]at h1
 refine Aj (Aea r1.1.1 _ _ _ zq1 (Ah hc h1c)) (fun o4 ⟨⟨p1,p2⟩,p3⟩=>?_)
 refine Aj (Id _ p3 zq3) (fun r5 h5c=>?_)
 refine B4 (fun _=>?_) (fun _=>?_)
 .refine Aj (Ue (Ah p3 h5c)) (fun r6 ⟨h6,h6c⟩=>?_)
  refine Hr (Al zq0) ?_
  have hw:WsP 30 (o4.1++[r6.1]):=⟨by simp;omega,Sx (n:=0) p2 h6⟩
  refine Aj (Id _ (Ah p3 h6c) zq3) (fun r7 h7c=>?_)
  refine B4 (fun _=>?_) (fun _=>?_)
  .refine Aj (Jl (Ah p3 h7c)) (fun r8 ⟨h8,h8c⟩=>?_)
   refine Aj (Dp _ 89 91 (Ah p3 h8c) zq3 zq3) (fun r9 ⟨h9,h9c⟩=>?_)
   exact Aj (Uf _ r9.1.1 _ _ _ r8.1 hw zq1 h8 (Ah p3 h9c)) (fun o13 ho=>Ao ho)
  .exact Ao ⟨⟨by have:=hw.1;dsimp only;omega,hw.2⟩,Ah p3 h7c⟩
 .refine Aj (Id _ (Ah p3 h5c) zq3) (fun r14 h14c=>?_)
  refine B4 (fun _=>?_) (fun _=>?_)
  .refine Aj (Jl (Ah p3 h14c)) (fun r15 ⟨h15,h15c⟩=>?_)
   refine Aj (Dp _ 89 91 (Ah p3 h15c) zq3 zq3) (fun r16 ⟨h16,h16c⟩=>?_)
   exact Aj (Uf _ r16.1.1 _ _ _ r15.1 ⟨by omega,p2⟩ zq1 h15 (Ah p3 h16c)) (fun o17 ho=>Ao ho)
  .exact Ao ⟨⟨by dsimp only;omega,p2⟩,Ah p3 h14c⟩
theorem Aa4 (a:YBs) (h:a.1.length<=1048576):Tot (fun r=>WsP 130 r.1.1/\r.2.2.2.2.2.1.length<=300) (Fu a):=by
 unfold Fu Jg
 simp only[Am,Ar,Ad,Aw]
 refine Aj (Wo a h) (fun r1 h1=>?_)
 refine Aj (R5 _ zq3 zq3 h1) (fun r2 ⟨h2,h2c⟩=>?_)
 refine Aj (Ue (Ah h1 h2c)) (fun r3 ⟨h3,_⟩=>?_)
 exact Ao ⟨h2,h3⟩
theorem Ug (a:YBs) (h:a.1.length<=1048576):Tot (fun r=>WsP 130 r.1.1) (H9 a):=by
 unfold H9 H6
 simp only[Am,Ar,Ad,Aw]
 refine Aj (Wo a h) (fun r1 h1=>?_)
 refine Aj (R5 _ zq3 zq3 h1) (fun r2 ⟨h2,h2c⟩=>?_)
 refine Aj (Bn _ (Ah h1 h2c) zq3) (fun r3 ⟨_,h3c⟩=>?_)
 refine Aj (Hh _) (fun r4 _=>?_)
 refine Aj (Bn _ (Ah h1 h3c) zq3) (fun r5 ⟨_,h5c⟩=>?_)
 refine Aj (Hh _) (fun r6 _=>?_)
 exact Ao h2
end
end Go.Proofs.YthccfdmiejmbaaaDoor
