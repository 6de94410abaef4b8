/-
  That the program and the reference answer alike, in plain terms, and that the laws answer true.
-/
import Derived.Test.YtmhhajdeafijmaaGreatL60
namespace Go.Proofs.YtmhhajdeafijmaaGreat
open Go.RowKit
set_option linter.unusedVariables false
set_option linter.unusedSimpArgs false
set_option maxRecDepth 100000
set_option maxHeartbeats 16000000
noncomputable section
theorem Amd {c:Af} (hr:c.1=0∨c.1=1) (hs:c.2.1.length=12) (he:Dm (Gj c)=true) (ho:Hu c=true) (hx:(Bl c).length=0∨(c.1=0∧(Bl c).length=32∧c.2.2.1<4294967295)):Bd c=true:=by
 unfold Bd
 rw[he,ho]
 rcases hr with hr|hr<;>rcases hx with hx|⟨h1,h2,h3⟩
 ·simp[hr,hs,hx]
 ·have h3':(Gj c).1<4294967295:=h3
  simp[hr,hs,h2,h3']
 ·simp[hr,hs,hx]
 ·omega
theorem A86 {c:Af} (h0:Na c=true) (h1:Dm (Mc c)=true) (h2:(Mc c).1=IntKind.i64.wrap ((Gj c).1-1)) (h3:0≤Md c∧Md c≤1000005):Hu c=true:=by
 unfold Hu
 rw[h0,h1,h2,A6.2 h3]
 simp
theorem Azx {b:List YB} {a0:A7} (hc:Ck b a0):Tot (fun r=>(Bd r.1=true∧r.1.1=0)∧Ck b r.2) (Mx a0 ((0:Int),())):=by
 unfold Mx R3
 simp only[Ag,Ai,Ad,Ao,show((0:Int)==(0:Int))=true from rfl,Aw]
 refine Aq (Dg _ hc zq4) (fun r1 ⟨⟨h1,_⟩,h1c⟩=>?_)
 refine Aq (Dg _ (Ap hc h1c) zq4) (fun r2 ⟨⟨h2,_⟩,h2c⟩=>?_)
 have h1:r1.1.1.length=12:=h1
 have h2:r2.1.1.length=32:=h2
 rw[show Ir ((0:Int),()) r1.1 r2.1=some (C5 0 r1.1.1 r2.1.1)from(Ad6 0 r1.1.1 r2.1.1 (.inl rfl) h1 h2).2,Aj]
 refine Aq (C9 _ 0 281474976710656 (Ap hc h2c) zq4 zq4) (fun r4 ⟨h4,h4c⟩=>?_)
 have h32: ∀k:List YB,k.length=32→(B0 k Ct).length=32:=fun k hk=>Tg zq4 zq0
 have hd:=h32 _ h2
 have nx: ∀(c:A7) (N:Int) (kq:List YB) (C:List YB→Af),Ck b c→c.1=a0.1→kq.length=32→(∀x:List YB,(x.length=0∨(x.length=32∧N<4294967295))→Bd (C x)=true∧(C x).1=0)→
   Tot (fun r:Af×A7=>(Bd r.1=true∧r.1.1=0)∧Ck b r.2) (br (decide (N<(4294967295:Int))) (ob (Cg c ((2:Int),())) fun r12=>br r12.1.1 (ob (Bt (kq,()) ((Bq [114,101,107,101,121]),())) fun r13=>some (C r13.1,(a0.1,r12.2.2.1,r12.2.2.2.1,()))) (some (C [],(a0.1,r12.2.2.1,r12.2.2.2.1,())))) (some (C [],c))):=fun c N kq C hcc e hk hC=>by
  refine Ax (fun hN=>?_) (fun _=>Ak ⟨hC [] (.inl rfl),hcc⟩)
  have hN:=of_decide_eq_true hN
  refine Aq (Cw _ hcc zq4) (fun r12 h12c=>?_)
  refine Ax (fun _=>?_) (fun _=>Ak ⟨hC [] (.inl rfl),Ap hc h12c⟩)
  rw[show Bt (kq,()) (Bq [114,101,107,101,121],())=_ from Abx kq,Aj]
  exact Ak ⟨hC _ (.inr ⟨h32 _ hk,hN⟩),Ap hc h12c⟩
 refine Aq (Cw _ (Ap hc h4c) zq4) (fun r5 h5c=>?_)
 have fin: ∀(c:A7) (t:Int) (w:List YI),Ck b c→c.1=a0.1→Fq (t,w,())=true→
   (Tot (fun r:Af×A7=>(Bd r.1=true∧r.1.1=0)∧Ck b r.2) (ob (Cg c ((2:Int),())) fun r7=>br r7.1.1 (ob (Dk (a0.1,r7.2.2.1,r7.2.2.2.1,()) ([((1:Int),()),((1:Int),()),((2:Int),()),((4294967295:Int),())],())) fun r8=>
    ob (Bt (r2.1.1,()) ((Bq [114,101,107,101,121]),())) fun r9=>ob (Ey r8.1 r9) fun r10=>ob (Dk (a0.1,r8.2.2.1,r8.2.2.2.1,()) ([((-1:Int),()),((0:Int),()),((5:Int),()),((7:Int),()),((1000005:Int),())],())) fun r11=>
    br (decide (r11.1.1<(0:Int)))
     (br (decide (r10.1<(4294967295:Int))) (ob (Cg (a0.1,r11.2.2.1,r11.2.2.2.1,()) ((2:Int),())) fun r12=>br r12.1.1 (ob (Bt (r10.2.1,()) ((Bq [114,101,107,101,121]),())) fun r13=>
      some ((0,r1.1.1,r10.1,r10.2.1,r10.2.2.1,r10.2.2.2.1,r10.2.2.2.2.1,(IntKind.i64.wrap (r10.1-(1:Int))),r2.1.1,r4.1.1,t,w,true,5,r13.1,()),(a0.1,r12.2.2.1,r12.2.2.2.1,())))
      (some ((0,r1.1.1,r10.1,r10.2.1,r10.2.2.1,r10.2.2.2.1,r10.2.2.2.2.1,(IntKind.i64.wrap (r10.1-(1:Int))),r2.1.1,r4.1.1,t,w,true,5,[],()),(a0.1,r12.2.2.1,r12.2.2.2.1,()))))
      (some ((0,r1.1.1,r10.1,r10.2.1,r10.2.2.1,r10.2.2.2.1,r10.2.2.2.2.1,(IntKind.i64.wrap (r10.1-(1:Int))),r2.1.1,r4.1.1,t,w,true,5,[],()),(a0.1,r11.2.2.1,r11.2.2.2.1,()))))
     (br (decide (r10.1<(4294967295:Int))) (ob (Cg (a0.1,r11.2.2.1,r11.2.2.2.1,()) ((2:Int),())) fun r12=>br r12.1.1 (ob (Bt (r10.2.1,()) ((Bq [114,101,107,101,121]),())) fun r13=>
      some ((0,r1.1.1,r10.1,r10.2.1,r10.2.2.1,r10.2.2.2.1,r10.2.2.2.2.1,(IntKind.i64.wrap (r10.1-(1:Int))),r2.1.1,r4.1.1,t,w,true,r11.1.1,r13.1,()),(a0.1,r12.2.2.1,r12.2.2.2.1,())))
      (some ((0,r1.1.1,r10.1,r10.2.1,r10.2.2.1,r10.2.2.2.1,r10.2.2.2.2.1,(IntKind.i64.wrap (r10.1-(1:Int))),r2.1.1,r4.1.1,t,w,true,r11.1.1,[],()),(a0.1,r12.2.2.1,r12.2.2.2.1,()))))
      (some ((0,r1.1.1,r10.1,r10.2.1,r10.2.2.1,r10.2.2.2.1,r10.2.2.2.2.1,(IntKind.i64.wrap (r10.1-(1:Int))),r2.1.1,r4.1.1,t,w,true,r11.1.1,[],()),(a0.1,r11.2.2.1,r11.2.2.2.1,())))))
    (br (decide ((0:Int)<(4294967295:Int))) (ob (Cg (a0.1,r7.2.2.1,r7.2.2.2.1,()) ((2:Int),())) fun r12=>br r12.1.1 (ob (Bt (r2.1.1,()) ((Bq [114,101,107,101,121]),())) fun r13=>
      some ((0,r1.1.1,0,r2.1.1,r4.1.1,t,w,0,[],0,0,[],false,0,r13.1,()),(a0.1,r12.2.2.1,r12.2.2.2.1,())))
      (some ((0,r1.1.1,0,r2.1.1,r4.1.1,t,w,0,[],0,0,[],false,0,[],()),(a0.1,r12.2.2.1,r12.2.2.2.1,()))))
      (some ((0,r1.1.1,0,r2.1.1,r4.1.1,t,w,0,[],0,0,[],false,0,[],()),(a0.1,r7.2.2.1,r7.2.2.2.1,())))))):=fun c t w hcc e hw=>by
  refine Aq (Cw _ hcc zq4) (fun r7 h7c=>?_)
  have ep0:Dm ((0,r2.1.1,r4.1.1,t,w,()):YEp)=true:=A28 zq4 h2 h4 hw
  refine Ax (fun _=>?_) (fun _=>nx _ 0 r2.1.1 (fun x=>(0,r1.1.1,0,r2.1.1,r4.1.1,t,w,0,[],0,0,[],false,0,x,())) (Ap hc h7c) rfl h2 (fun x hx=>⟨Amd (.inl rfl) h1 ep0 rfl (hx.imp id fun h=>⟨rfl,h.1,h.2⟩),rfl⟩))
  refine Aq (C9 _ 1 4294967295 (Ap hc h7c) zq4 zq4) (fun r8 ⟨h8,h8c⟩=>?_)
  rw[show Bt (r2.1.1,()) (Bq [114,101,107,101,121],())=_ from Abx r2.1.1,Aj]
  rw[show Ey r8.1 (B0 r2.1.1 Ct,())=some (Dd r8.1.1 (B0 r2.1.1 Ct))from(Av4 r8.1.1 _ zq0 hd).2,Aj]
  refine Aq (C9 _ (-1) 1000005 (Ap hc h8c) zq4 zq4) (fun r11 ⟨h11,h11c⟩=>?_)
  have ep1:Dm (Dd r8.1.1 (B0 r2.1.1 Ct))=true:=Al9 zq0 hd
  have ep2:Dm ((IntKind.i64.wrap (r8.1.1-1),r2.1.1,r4.1.1,t,w,()):YEp)=true:=A28 (by rw[w64 zq0];omega) h2 h4 hw
  have mk: ∀u:Int,0≤u∧u≤1000005→ ∀x:List YB,(x.length=0∨(x.length=32∧(Dd r8.1.1 (B0 r2.1.1 Ct)).1<4294967295))→Bd ((0,r1.1.1,(Dd r8.1.1 (B0 r2.1.1 Ct)).1,(Dd r8.1.1 (B0 r2.1.1 Ct)).2.1,(Dd r8.1.1 (B0 r2.1.1 Ct)).2.2.1,(Dd r8.1.1 (B0 r2.1.1 Ct)).2.2.2.1,(Dd r8.1.1 (B0 r2.1.1 Ct)).2.2.2.2.1,(IntKind.i64.wrap ((Dd r8.1.1 (B0 r2.1.1 Ct)).1-(1:Int))),r2.1.1,r4.1.1,t,w,true,u,x,()):Af)=true∧(0:Int)=0:=fun u hu x hx=>
   ⟨Amd (.inl rfl) h1 ep1 (A86 rfl ep2 rfl hu) (hx.imp id fun h=>⟨rfl,h.1,h.2⟩),rfl⟩
  refine Ax (fun hneg=>?_) (fun hneg=>?_)
  ·exact nx _ _ (Dd r8.1.1 (B0 r2.1.1 Ct)).2.1 (fun x=>(0,r1.1.1,(Dd r8.1.1 (B0 r2.1.1 Ct)).1,(Dd r8.1.1 (B0 r2.1.1 Ct)).2.1,(Dd r8.1.1 (B0 r2.1.1 Ct)).2.2.1,(Dd r8.1.1 (B0 r2.1.1 Ct)).2.2.2.1,(Dd r8.1.1 (B0 r2.1.1 Ct)).2.2.2.2.1,(IntKind.i64.wrap ((Dd r8.1.1 (B0 r2.1.1 Ct)).1-(1:Int))),r2.1.1,r4.1.1,t,w,true,5,x,())) (Ap hc h11c) rfl hd (mk 5 zq4)
  ·have hneg:=of_decide_eq_false hneg
   exact nx _ _ (Dd r8.1.1 (B0 r2.1.1 Ct)).2.1 (fun x=>(0,r1.1.1,(Dd r8.1.1 (B0 r2.1.1 Ct)).1,(Dd r8.1.1 (B0 r2.1.1 Ct)).2.1,(Dd r8.1.1 (B0 r2.1.1 Ct)).2.2.1,(Dd r8.1.1 (B0 r2.1.1 Ct)).2.2.2.1,(Dd r8.1.1 (B0 r2.1.1 Ct)).2.2.2.2.1,(IntKind.i64.wrap ((Dd r8.1.1 (B0 r2.1.1 Ct)).1-(1:Int))),r2.1.1,r4.1.1,t,w,true,r11.1.1,x,())) (Ap hc h11c) rfl hd (mk r11.1.1 zq0)
 refine Ax (fun _=>?_) (fun _=>?_)
 ·exact Aq (A43 (Ap hc h5c)) (fun r6 ⟨h6,h6c⟩=>fin _ _ _ (Ap hc h6c) rfl h6)
 ·exact fin _ _ _ (Ap hc h5c) rfl Al8
end
end Go.Proofs.YtmhhajdeafijmaaGreat
