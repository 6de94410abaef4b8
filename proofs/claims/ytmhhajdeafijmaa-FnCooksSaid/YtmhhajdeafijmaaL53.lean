/-
  That the program and the reference answer alike, in plain terms, and that the laws answer true.
-/
import Derived.Test.YtmhhajdeafijmaaL52
namespace Go.Proofs.Ytmhhajdeafijmaa
open Go.RowKit
set_option linter.unusedVariables false
set_option linter.unusedSimpArgs false
set_option maxRecDepth 100000
set_option maxHeartbeats 8000000
noncomputable section
theorem Ab8 (f:Ee):(Ps f).length≤Df f+100:=by
 unfold Ps
 cases N7 f with
 |false=>simp
 |true=>
 simp only[Bool.not_true,cond_false]
 cases f.1==1 with
 |true=>simp only[cond_true,List.length_cons,List.length_append,List.length_replicate,Df];omega
 |false=>
 cases f.1==2 with
 |true=>simp only[cond_true,cond_false,List.length_cons,List.length_append,Ji,Df];omega
 |false=>
 cases f.1==3 with
 |true=>simp only[cond_true,cond_false,List.length_cons,List.length_append,Ji,Df];omega
 |false=>simp only[cond_false,List.length_cons,List.length_append,Ji,Df];omega
theorem Tt (a:YI) (h:1≤a.1∧a.1≤10):Tot (fun r=>0≤r.1∧r.1≤3) (Bq a):=by
 unfold Bq Mv
 simp only[Ad,Ae,Ac,Ah]
 exact An (Sr (P:=fun x:YI=>0≤x.1∧x.1≤3) zq0 (by simp only[List.length_cons,List.length_nil];omega) zq4) (fun e he=>As he)
theorem Rx {b:List YB} {a0:Ax} (hc:B4 b a0):Tot (fun r=>(1≤r.1.1∧r.1.1≤10)∧B4 b r.2) (J0 a0):=by
 unfold J0 Q1
 simp only[Ad,Ae,Ac,Ah,List.length_nil,List.nil_append,Nat.zero_add]
 refine An (Cc _ 1 10 hc zq4 zq4) (fun r1 ⟨h1,h1c⟩=>?_)
 refine Bs (fun _=>?_) (fun _=>?_)
 ·refine An (Cc _ 0 32 (Ak hc h1c) zq4 zq4) (fun r2 ⟨h2,h2c⟩=>?_)
  refine An (Be _ (Ak hc h2c) zq0) (fun r3 ⟨h3,h3c⟩=>?_)
  refine An (Bl _ (Ak hc h3c) zq4) (fun r4 ⟨_,h4c⟩=>?_)
  refine An (Cc _ 0 16 (Ak hc h4c) zq4 zq4) (fun r5 ⟨_,h5c⟩=>?_)
  exact As ⟨h1,Ak hc h5c⟩
 ·refine An (Bl _ (Ak hc h1c) zq4) (fun r4 ⟨_,h4c⟩=>?_)
  refine An (Cc _ 0 16 (Ak hc h4c) zq4 zq4) (fun r5 ⟨_,h5c⟩=>?_)
  exact As ⟨h1,Ak hc h5c⟩
theorem Af6 {b:List YB} {a0:Ax} (hc:B4 b a0):Tot (fun r=>B4 b r.2) (Oq a0):=by
 unfold Oq Oo
 simp only[Ad,Ae,Ac,Ah,List.length_nil,List.nil_append,Nat.zero_add]
 refine An (Rx hc) (fun r1 ⟨h1,h1c⟩=>?_)
 refine An (Bl _ (Ak hc h1c) zq4) (fun r2 ⟨_,h2c⟩=>?_)
 refine Bs (fun _=>?_) (fun _=>?_)
 ·exact An (Cc _ (-1) 11 (Ak hc h2c) zq4 zq4) (fun r3 ⟨_,h3c⟩=>As (Ak hc h3c))
 refine Bs (fun _=>?_) (fun _=>?_)
 ·exact An (Cc _ (-1) 201 (Ak hc h2c) zq4 zq4) (fun r3 ⟨_,h3c⟩=>As (Ak hc h3c))
 refine Bs (fun _=>?_) (fun _=>?_)
 ·exact An (Cc _ (-1) 201 (Ak hc h2c) zq4 zq4) (fun r3 ⟨_,h3c⟩=>As (Ak hc h3c))
 refine Bs (fun _=>?_) (fun _=>?_)
 ·refine An (Cc _ 200 201 (Ak hc h2c) zq4 zq4) (fun r3 ⟨h3,h3c⟩=>?_)
  exact An (Be _ (Ak hc h3c) zq0) (fun r4 ⟨_,h4c⟩=>As (Ak hc h4c))
 ·exact As (Ak hc h2c)
theorem Ai9 {b:List YB} (l:List YOp) (n i c1 c2 c3 k1 k2 k3:_) (k4:List YB) (hc:B4 b (c1,c2,c3,())) (hk:1≤k1∧k1≤10):
  Tot (fun r:(List YOp)×Int×Int×(List YB)×Int×Int×Int×Int×Int×(List YB)×Unit=>r.1=l∧r.2.1=n∧r.2.2.1=i∧B4 b (r.2.2.2.1,r.2.2.2.2.1,r.2.2.2.2.2.1,())∧1≤r.2.2.2.2.2.2.1∧r.2.2.2.2.2.2.1≤10) (Am Eg (l,n,i,(0:Int),c1,c2,c3,k1,k2,k3,k4,())):=by
 refine G7 (fun j d=>d.1=l∧d.2.1=n∧d.2.2.1=i∧d.2.2.2.1=(j:Int)∧B4 b (d.2.2.2.2.1,d.2.2.2.2.2.1,d.2.2.2.2.2.2.1,())∧1≤d.2.2.2.2.2.2.2.1∧d.2.2.2.2.2.2.2.1≤10) _ 6 ?_ ⟨rfl,rfl,rfl,rfl,hc,hk⟩
 rintro j ⟨l',n',i',k,e1,e2,e3,e4,e5,e6,e7,⟨⟩⟩ hj ⟨g1,g2,g3,g4,g5,g6⟩
 dsimp only at g1 g2 g3 g4 g5 g6
 subst g1 g2 g3 g4
 unfold Eg
 simp only[Ad,Ae,Ac,Ah]
 refine Bs (fun h=>?_) (fun h=>As (.inr ⟨_,rfl,rfl,rfl,rfl,g5,g6⟩))
 have h:=of_decide_eq_true h
 refine An (Tt _ g6) (fun r hr=>?_)
 refine Bs (fun h2=>?_) (fun h2=>As (.inr ⟨_,rfl,rfl,rfl,rfl,g5,g6⟩))
 refine An (Rx g5) (fun q ⟨q1,q2⟩=>As (.inl ⟨_,rfl,by omega,rfl,rfl,rfl,?_,Ak g5 q2,q1⟩))
 show IntKind.i64.wrap ((j:Int)+1)=((j+1:Nat):Int)
 rw[w64 zq0];omega
theorem Aaz {b:List YB} {a0:Ax} (a1:YI) (hc:B4 b a0) (hn:0≤a1.1∧a1.1≤14):Tot (fun r=>r.1.1.length≤100∧B4 b r.2) (Kb a0 a1):=by
 unfold Kb Hq
 simp only[Ad,Ae,Ac,Ah]
 refine An (Bl _ hc zq0) (fun r1 ⟨⟨h1,h2⟩,h1c⟩=>?_)
 have hw:IntKind.i64.wrap (1+r1.1.1)=1+r1.1.1:=w64 zq0
 rw[hw]
 refine An (Q:=fun o:(List YOp)×Int×(List YB)×Int×Int×Unit=>o.1.length≤20∧o.2.1≤20∧B4 b (o.2.2.1,o.2.2.2.1,o.2.2.2.2.1,())) ?_ (fun o ⟨o1,o2,o3⟩=>?_)
 ·refine G7 (fun j d=>d.1.length=j∧ -3*(j:Int)≤d.2.1∧d.2.1≤(j:Int)∧d.2.2.1=1+r1.1.1-j∧B4 b (d.2.2.2.1,d.2.2.2.2.1,d.2.2.2.2.2.1,())) _ (1+r1.1.1).toNat ?_ ⟨rfl,by simp,by simp,by simp,Ak hc h1c⟩
  rintro j ⟨l,n,i,c1,c2,c3,⟨⟩⟩ hj ⟨g1,g2,g3,g4,g5⟩
  dsimp only at g1 g2 g3 g4 g5
  unfold F3
  simp only[Ad,Ae,Ac,Ah]
  refine Bs (fun h=>?_) (fun h=>As (.inr ⟨_,rfl,by dsimp only;omega,by dsimp only;omega,g5⟩))
  have h:=of_decide_eq_true h
  refine An (Rx g5) (fun q ⟨q1,q2⟩=>?_)
  refine An (Ai9 l n i _ _ _ _ _ _ _ (Ak g5 q2) q1) (fun o ⟨o1,o2,o3,o4,o5⟩=>?_)
  refine An (Tt _ o5) (fun s hs=>?_)
  rw[o1,o2,o3]
  refine Fz (Af zq2) (As (.inl ⟨_,rfl,by omega,by simp;omega,?_,?_,?_,o4⟩))
  ·dsimp only;rw[w64 (n:=n-s.1) zq0,w64 zq0];omega
  ·dsimp only;rw[w64 (n:=n-s.1) zq0,w64 zq0];omega
  ·dsimp only;rw[w64 zq0];omega
 ·refine An (Q:=fun p:(List YOp)×(List YB)×Int×Int×Unit=>p.1.length≤100∧B4 b (p.2.1,p.2.2.1,p.2.2.2.1,())) ?_ (fun p hp=>As hp)
  refine G7 (fun j d=>d.1.length=o.1.length+j∧d.2.1=o.2.1-j∧B4 b (d.2.2.1,d.2.2.2.1,d.2.2.2.2.1,())) _ 20 ?_ ⟨rfl,by simp,o3⟩
  rintro j ⟨l,n,c1,c2,c3,⟨⟩⟩ hj ⟨g1,g2,g3⟩
  dsimp only at g1 g2 g3
  unfold Fj
  simp only[Ad,Ae,Ac,Ah]
  refine Bs (fun h=>?_) (fun h=>As (.inr ⟨_,rfl,by dsimp only;omega,g3⟩))
  have h:=of_decide_eq_true h
  refine Fz (Af zq2) (As (.inl ⟨_,rfl,by omega,by simp;omega,?_,g3⟩))
  dsimp only;rw[w64 zq0];omega
theorem Ad4 {b:List YB} {a0:Ax} (hc:B4 b a0):Tot (fun r=>r.1.2.2.2.2.1.length≤300∧B4 b r.2) (Mz a0):=by
 unfold Mz My
 simp only[Ad,Ae,Ac,Ah]
 refine An (Wa _ hc zq4) (fun r1 h1c=>?_)
 refine Bs (fun _=>?_) (fun _=>?_)
 ·refine An (Bl _ (Ak hc h1c) zq4) (fun r2 ⟨_,h2c⟩=>?_)
  refine An (Pz _) (fun r3 _=>?_)
  refine An (Bl _ (Ak hc h2c) zq4) (fun r4 ⟨_,h4c⟩=>?_)
  refine An (Pz _) (fun r5 _=>?_)
  refine An (Cc _ 0 200 (Ak hc h4c) zq4 zq4) (fun r6 ⟨h6,h6c⟩=>?_)
  refine An (Be _ (Ak hc h6c) zq0) (fun r7 ⟨⟨h7,_⟩,h7c⟩=>?_)
  exact As ⟨by dsimp only;omega,Ak hc h7c⟩
 ·refine An (Bl _ (Ak hc h1c) zq4) (fun r2 ⟨_,h2c⟩=>?_)
  refine An (Pz _) (fun r3 _=>?_)
  refine An (Bl _ (Ak hc h2c) zq4) (fun r4 ⟨_,h4c⟩=>?_)
  refine An (Pz _) (fun r5 _=>?_)
  refine An (Af4 (Ak hc h4c)) (fun r6 ⟨⟨h6,_⟩,h6c⟩=>?_)
  have hp:=Ab8 r6.1
  refine An (Q:=fun q:A5=>q.2.2.2.2.1.length≤300) ?_ (fun q hq=>As ⟨hq,Ak hc h6c⟩)
  unfold Q2 Kx
  simp only[Ad,Ae,Ac,Ah]
  rw[Afq _ zq0,Ag]
  exact As zq5
theorem Ab9 {α:Type} {l:List α} {x y:α} {P:α→Prop} (h: ∀z∈l,P z) (hx:P x) (hy:y∈l++[x]):P y:=by
 rcases List.mem_append.1 hy with hy|hy
 ·exact h y hy
 ·rw[List.mem_singleton.1 hy];exact hx
theorem Z0 {b:List YB} (l:List YOp) (n c1 c2 c3:_) (hn:n≤10) (hc:B4 b (c1,c2,c3,())):
  Tot (fun o:(List YOp)×(List A5)×(List YB)×Int×Int×Unit=>o.1=l∧(o.2.1.length≤20∧ ∀w∈o.2.1,w.2.2.2.2.1.length≤300)∧B4 b (o.2.2.1,o.2.2.2.1,o.2.2.2.2.1,())) (Am Dz (l,([]:List A5),n,c1,c2,c3,())):=by
 refine G7 (fun j d=>d.1=l∧d.2.1.length=j∧(∀w∈d.2.1,w.2.2.2.2.1.length≤300)∧d.2.2.1=n-j∧B4 b (d.2.2.2.1,d.2.2.2.2.1,d.2.2.2.2.2.1,())) _ 10 ?_ ⟨rfl,rfl,fun w hw=>(by cases hw),by simp,hc⟩
 rintro j ⟨l',ws,i,e1,e2,e3,⟨⟩⟩ hj ⟨g1,g2,g3,g4,g5⟩
 dsimp only at g1 g2 g3 g4 g5
 subst g1
 unfold Dz
 simp only[Ad,Ae,Ac,Ah]
 refine Bs (fun h=>?_) (fun h=>As (.inr ⟨_,rfl,rfl,⟨by dsimp only;omega,g3⟩,g5⟩))
 have h:=of_decide_eq_true h
 refine An (Ad4 g5) (fun q ⟨q1,q2⟩=>Fz (Af zq2) (As (.inl ⟨_,rfl,by omega,rfl,by simp;omega,fun w hw=>?_,?_,(by have:=Ak g5 q2;exact this)⟩)))
 ·exact Ab9 (P:=fun w:A5=>w.2.2.2.2.1.length≤300) g3 q1 hw
 ·dsimp only;rw[w64 zq0];omega
theorem Wc {b:List YB} (l:List YOp) (ws:List A5) (n c1 c2 c3:_) (hn:n≤10) (hc:B4 b (c1,c2,c3,())):
  Tot (fun o:(List YOp)×(List A5)×(List YBs)×Unit=>o.1=l∧o.2.1=ws∧o.2.2.1.length≤20∧ ∀w∈o.2.2.1,w.1.length≤32) (Am Dl (l,ws,([]:List YBs),n,c1,c2,c3,())):=by
 refine G7 (fun j d=>d.1=l∧d.2.1=ws∧d.2.2.1.length=j∧(∀w∈d.2.2.1,w.1.length≤32)∧d.2.2.2.1=n-j∧B4 b (d.2.2.2.2.1,d.2.2.2.2.2.1,d.2.2.2.2.2.2.1,())) _ 10 ?_ ⟨rfl,rfl,rfl,fun w hw=>(by cases hw),by simp,hc⟩
 rintro j ⟨l',ws',ks,i,e1,e2,e3,⟨⟩⟩ hj ⟨g1,g2,g3,g4,g5,g6⟩
 dsimp only at g1 g2 g3 g4 g5 g6
 subst g1 g2
 unfold Dl
 simp only[Ad,Ae,Ac,Ah]
 refine Bs (fun h=>?_) (fun h=>As (.inr ⟨_,rfl,rfl,rfl,by dsimp only;omega,g4⟩))
 have h:=of_decide_eq_true h
 refine An (Be _ g6 zq4) (fun q ⟨⟨q1,_⟩,q2⟩=>Fz (Af zq2) (As (.inl ⟨_,rfl,by omega,rfl,rfl,by simp;omega,fun w hw=>?_,?_,(by have:=Ak g6 q2;exact this)⟩)))
 ·exact Ab9 (P:=fun z:YBs=>z.1.length≤32) g4 (by have:((32:Int),()).1.toNat=32:=rfl;omega) hw
 ·dsimp only;rw[w64 zq0];omega
theorem Aca (a0:YBs) (hl:a0.1.length≤1048576):Tot (fun r=>r.1.1.length≤200∧(r.2.1.1.length≤20∧ ∀w∈r.2.1.1,w.2.2.2.2.1.length≤300)∧r.2.2.1.length≤20∧ ∀w∈r.2.2.1,w.1.length≤32) (Ky a0):=by
 unfold Ky Il
 simp only[Ad,Ae,Ac,Ah]
 refine An (Ahp _ hl) (fun r1 h1c=>?_)
 refine An (Cc _ 3 14 h1c zq4 zq4) (fun r2 ⟨h2,h2c⟩=>?_)
 refine An (Aaz _ (Ak h1c h2c) zq0) (fun r3 ⟨h3,h3c⟩=>?_)
 refine An (Wa _ (Ak h1c h3c) zq4) (fun r4 h4c=>?_)
 refine Bs (fun _=>?_) (fun _=>?_)
 ·refine An (Af6 (Ak h1c h4c)) (fun r5 h5c=>?_)
  refine Fz (Af zq2) ?_
  refine An (Bl _ (Ak h1c h5c) zq4) (fun r6 ⟨⟨_,h6⟩,h6c⟩=>?_)
  dsimp only at h6
  refine An (Z0 _ _ _ _ _ zq0 (Ak h1c h6c)) (fun o9 ⟨k1,k2,k3⟩=>?_)
  refine An (Bl _ k3 zq4) (fun r10 ⟨⟨_,h10⟩,h10c⟩=>?_)
  dsimp only at h10
  refine An (Wc _ _ _ _ _ _ zq0 (Ak k3 h10c)) (fun o13 ⟨q1,q2,q3⟩=>As ⟨?_,?_,q3⟩)
  ·dsimp only;rw[q1,k1];simp;omega
  ·dsimp only;rw[q2];exact k2
 ·refine An (Bl _ (Ak h1c h4c) zq4) (fun r6 ⟨⟨_,h6⟩,h6c⟩=>?_)
  dsimp only at h6
  refine An (Z0 _ _ _ _ _ zq0 (Ak h1c h6c)) (fun o9 ⟨k1,k2,k3⟩=>?_)
  refine An (Bl _ k3 zq4) (fun r10 ⟨⟨_,h10⟩,h10c⟩=>?_)
  dsimp only at h10
  refine An (Wc _ _ _ _ _ _ zq0 (Ak k3 h10c)) (fun o13 ⟨q1,q2,q3⟩=>As ⟨?_,?_,q3⟩)
  ·dsimp only;rw[q1,k1];omega
  ·dsimp only;rw[q2];exact k2
theorem Tu (a:YBs):K7 a a=some (true,()):=by
 unfold K7 Ue
 simp only[Ac,decide_true]
theorem Aht (a:YBs):Tc a=some (true,()):=by
 unfold Tc Hf
 simp only[Ae,Ad,Ac,Ah]
 rw[show Aef a=some (decide ((a.1.length:Int)>(1048576:Int)),())from rfl,Ag]
 by_cases hb:(a.1.length:Int)>1048576
 ·rw[Af hb,Ap]
 rw[Au hb,Aj]
 obtain⟨⟨⟨l,⟨⟩⟩,⟨seen,⟨⟩⟩,known,⟨⟩⟩,e,h1,⟨h2,h3⟩,h4,h5⟩:=Aca a zq0
 dsimp only at h1 h2 h3 h4 h5
 rw[e,Ag]
 have hs: ∀w∈seen,w.2.2.2.2.1.length≤4294967296:=fun w hw=>by have:=h3 w hw;omega
 have hk: ∀w∈known,w.1.length≤4294967296:=fun w hw=>by have:=h5 w hw;omega
 obtain⟨b,k,c1,c2,c3⟩:=Akg l seen known hs hk zq0 zq0
 dsimp only
 rw[c1,c2]
 simp only[Ag,beq_self_eq_true,Bool.not_true,Aj,Tu,Au (show ¬(b.length:Int)>200 by omega)]
 cases k with
 |false=>
  have hb0:b=[]:=by
   unfold Co Jg at c1
   simp only[Ad,Ae,Ac,Ah,N6]at c1
   by_cases h0:(l.length:Int)>16
   ·rw[Af h0,Ap]at c1;simp at c1;first|exact c1|exact c1.symm
   rw[Au h0,Aj]at c1
   obtain⟨o,q1,q2,q3,q4⟩:=Rw l seen known zq0 hs hk zq0 zq0 l.length 0 [] zq0 ⟨by simp,fun y hy=>by cases hy⟩
   rw[show Am A8 (seen,known,([]:List YBs),l,(l.length:Int),(0:Int),())=some o from q1]at c1
   simp only[Ag]at c1
   rcases o with⟨b',q,⟨⟩⟩|⟨t,⟨⟩⟩
   ·obtain⟨rfl,rfl⟩:=q4 b' q rfl
    simp[sm]at c1;first|exact c1|exact c1.symm
   ·obtain⟨g1,g2⟩:=q3 t rfl
    simp only[Af5,bne]at c1
    cases ht:((t.length:Int)==1)with
    |false=>rw[ht]at c1;simp[br]at c1;first|exact c1|exact c1.symm
    |true=>
     have ht':t.length=1:=by have:=eq_of_beq ht;omega
     match t,ht',g2 with
     |[x],_,g2=>
      have hx:=g2 x zq3
      rw[ht]at c1
      simp only[Bool.not_true,Aj,show idx [x] (0:Int)=some x from rfl,Ag]at c1
      rw[G6 _ zq0]at c1
      simp[ob]at c1
  subst hb0
  rfl
 |true=>
  simp only[Bool.not_true,Aj,Ap]
  by_cases h16:(l.length:Int)≥16
  ·rw[Af h16,Ap]
  rw[Au h16,Aj]
  simp only[List.length_nil,List.nil_append,Nat.zero_add,List.length_cons]
  rw[Af zq0,Af zq0,Ar,Ar]
  rw[Ahs l seen known b zq0 c1 hs hk zq0 zq0,Ai8 l seen known b zq0 c1 hs hk zq0 zq0]
  simp only[Ag,Ar,Ap]
  rw[show Fk (b,()) (F9 [114,101,107,101,121],())=_ from Rs b]
  simp only[Ag,Tu,Ap]
end
end Go.Proofs.Ytmhhajdeafijmaa
