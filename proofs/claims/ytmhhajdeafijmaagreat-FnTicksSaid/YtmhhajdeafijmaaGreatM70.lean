/-
  That the program and the reference answer alike, in plain terms, and that the laws answer true.
-/
import Derived.Test.YtmhhajdeafijmaaGreatM67
namespace Go.Proofs.YtmhhajdeafijmaaGreat
open Go.RowKit
set_option linter.unusedVariables false
set_option linter.unusedSimpArgs false
set_option maxRecDepth 100000
set_option maxHeartbeats 1600000
noncomputable section
theorem Ba2 {c:Ab} (h:A0 c=true) (hs:c.2.2.2.2.1=3):0≤Dr c∧Dr c≤1000000:=by
 unfold A0 at h
 rw[hs]at h
 simp only[show((3:Int)==0)=false by decide,show((3:Int)==1)=false by decide,show((3:Int)==2)=false by decide,show((3:Int)==3)=true by decide,cond_false,cond_true,Bool.and_eq_true]at h
 exact A6.1 h.2.2.2.2.2.2.2.2.2.2
theorem A89 {c:Ab} {ch:Af} {r:A9} (h:A0 c=true) (hs:c.2.2.2.2.1=3) (h3:Bd ch=true) (h4:ch.1=0) (h6:Bp r=true) (h7:r.1=decide (((Bl ch).length:Int)>0)):A0 (Dn c c.2.2.2.2.1 (Cr c) ch (clT c) r (Dr c))=true:=by
 obtain⟨a1,a2,_,_,a5,_⟩:=Th h hs
 rw[hs]
 exact Axo h a1 a2 h3 h4 a5 h6 h7 (Ba2 h hs)
theorem Nc {x0:Int} {x1:(List YB)} {x2:Int} {x3:Int} {x4:Int} {x5:(List YB)} {x6:Int} {x7:Int} {x8:(List YB)} {x9:(List YB)} {x10:Int} {x11:(List YB)} {x12:(List YB)} {x13:Int} {x14:Int} {x15:(List YB)} {x16:(List YB)} {x17:Int} {x18:(List YB)} {x19:Int} {x20:(List YB)} {x21:Int} {x22:Int} {x23:(List YI)} {x24:Int} {x25:(List YB)} {x26:Int} {x27:Int} {x28:(List YI)} {x29:Bool} {x30:Int} {x31:(List YB)} {x32:Bool} {x33:Int} {x34:Int} {x35:Int} {x36:Bool} {x37:Int} {x38:Int} {x39:Int} {x40:Int} {ch:Af} {r:A9} (h:A0 (x0,x1,x2,x3,x4,x5,x6,x7,x8,x9,x10,x11,x12,x13,x14,x15,x16,x17,x18,x19,x20,x21,x22,x23,x24,x25,x26,x27,x28,x29,x30,x31,x32,x33,x34,x35,x36,x37,x38,x39,x40,())=true) (hs:x4=3) (h3:Bd ch=true) (h4:ch.1=0) (h6:Bp r=true) (h7:r.1=decide (((Bl ch).length:Int)>0)):A0 (x0,x1,x2,x3,x4,x5,x6,x7,x8,x9,x10,x11,x12,x13,x14,x15,x16,ch.1,ch.2.1,ch.2.2.1,ch.2.2.2.1,ch.2.2.2.2.1,ch.2.2.2.2.2.1,ch.2.2.2.2.2.2.1,ch.2.2.2.2.2.2.2.1,ch.2.2.2.2.2.2.2.2.1,ch.2.2.2.2.2.2.2.2.2.1,ch.2.2.2.2.2.2.2.2.2.2.1,ch.2.2.2.2.2.2.2.2.2.2.2.1,ch.2.2.2.2.2.2.2.2.2.2.2.2.1,ch.2.2.2.2.2.2.2.2.2.2.2.2.2.1,ch.2.2.2.2.2.2.2.2.2.2.2.2.2.2.1,x32,x33,x34,x35,r.1,r.2.1,r.2.2.1,r.2.2.2.1,x40,())=true:=
 A89 (c:=(x0,x1,x2,x3,x4,x5,x6,x7,x8,x9,x10,x11,x12,x13,x14,x15,x16,x17,x18,x19,x20,x21,x22,x23,x24,x25,x26,x27,x28,x29,x30,x31,x32,x33,x34,x35,x36,x37,x38,x39,x40,())) (ch:=ch) (r:=r) h hs h3 h4 h6 h7
def Am7 (f:Aa) (b:List YB):Aa:=(f.1,f.2.1,b,f.2.2.2.1,f.2.2.2.2.1,f.2.2.2.2.2.1,f.2.2.2.2.2.2.1,f.2.2.2.2.2.2.2.1,f.2.2.2.2.2.2.2.2.1,f.2.2.2.2.2.2.2.2.2.1,f.2.2.2.2.2.2.2.2.2.2.1,())
theorem A9a {f:Aa} {b:List YB} (h:Bg f=true) (hk:f.1=2) (hb:b.length=12):Bg (Am7 f b)=true:=by
 obtain⟨a1,a2,a3,a4,a5,a6,a7,a8,a9,a10⟩:=Lp h hk
 unfold Bg Am7
 simp only[hk,a2,a4,a5,a6,a7,a8,a9,a10,hb,A6.2 a3,show inR 2 4 8=false by decide,cond_false,show((2:Int)==1)=false by decide,show((2:Int)==2)=true by decide,cond_true]
 decide
theorem Bad (c:Ab) (n:YI) (f:Aa) (h:Al c≤8388608) (h2:As f≤8388608) (w1:wfB f.2.2.2.1) (w2:wfB (Bm c).2.1) (ho:A0 c=true):
  ∃r fs ns,Fz c n f=some (r,(fs,()),(ns,()))∧Ez c n f=some (r,(fs,()),(ns,()))∧A0 r=true∧Al r≤Al c+As f+400∧wfB (Bm r).2.1:=by
 obtain⟨r,fs,ns,e1,e2,p⟩:=Ajx c n f h h2 w1 w2
 obtain⟨p1,_,_,_,_,_,_,_,p9,_,_,p12⟩:=p
 exact⟨r,fs,ns,e1,e2,p9 ho,p1,p12 w1 w2⟩
theorem Bdf (i:Int) (p:List YB) (a:Gv) (b:List YB) (t:A9) (n:YI) (f:Aa) (hi:1≤i∧i≤9) (hp:Gx (p,())=true) (ha:Gc a=true) (hb:b.length=12) (ht:t.1=true∧Bp t=true) (hn:0≤n.1∧n.1≤1000000) (hf:Bg f=true) (hk:f.1=2) (hnf:As f≤4000) (hw:wfB f.2.2.2.1):
  ∃x fs ns,Ez (Mg i p a b t) n (Am7 f b)=some (x,fs,ns)∧A0 x=true∧Al x≤20000∧wfB (Bm x).2.1∧x.2.2.2.2.1=2∧clT x=(true,n.1+1,1,1,())∧Bm x=C5 0 f.2.2.2.1 (Ei p b f.2.2.2.1 0)∧(Ei p b f.2.2.2.1 0).length=32∧f.2.2.2.1.length=12:=by
 have hpl:=A6.1 (show inR (p.length:Int) 1 32=true from hp)
 have hD:=Azz (t:=t) hi hp ha hb ht
 have hf':=A9a (b:=b) hf hk hb
 have hnf':As (Am7 f b)≤6000:=Nat.le_trans (Asr f _) zq0
 have hnd:Al (Mg i p a b t)≤1000:=by simp only[Al,Mg,List.length_nil];omega
 obtain⟨_,q2,_⟩:=Lp hf hk
 have hek:(Ei p b f.2.2.2.1 0).length=32:=Amb hp hb q2
 obtain⟨x,fs1,ns1,e1,e2,x1,x2,x3⟩:=Bad (Mg i p a b t) n (Am7 f b) zq0 zq0 hw Gk hD
 obtain⟨fs2,ns2,t2,ht2,e3⟩:=A18 (Mg i p a b t) n (Am7 f b) zq0 zq0 hD hn hf' hk rfl (Pu _)
 rw[(C7 n hn).1]at ht2
 obtain rfl:=Option.some.inj ht2
 rw[e1]at e3
 have hx:=congrArg Prod.fst (Option.some.inj e3)
 dsimp only at hx
 refine⟨x,_,_,e2,x1,by omega,x3,?_,?_,?_,hek,q2⟩
 ·rw[hx];rfl
 ·rw[hx];rfl
 ·rw[hx];rfl
theorem Bdg (x:Ab) (n:YI) (sn k:List YB) (hn:0≤n.1∧n.1≤1000000) (x1:A0 x=true) (x2:Al x≤20000) (x3:wfB (Bm x).2.1) (hs:x.2.2.2.2.1=2) (hch:Bm x=C5 0 sn k) (hl:sn.length=12) (hk:k.length=32) (hw:wfB sn):
  ∃y fs ns,Ez x n (Be k 1 sn 0 0 8 (Ce 0)).1=some (y,fs,ns)∧A0 y=true∧y.2.2.2.2.1=3∧(clR y).1=false:=by
 have hne:=Nb k 1 sn 0 0 8 (Ce 0)
 have hrk:=Abz 0
 have hrk4:(Ce 0).length=4:=by decide
 have hok:D7 k 1 sn 0 0 8 (Ce 0)=true:=by
  unfold D7 Dc
  rw[hrk4]
  simp[hl,hk,inR,Ft]
 have hF:=Xj hok
 have q4:(Be k 1 sn 0 0 8 (Ce 0)).1.2.2.2.1=sn:=by rw[hF.eq]
 obtain⟨y,fs3,ns3,m1,m2,y1,y2,y3⟩:=Bad x n (Be k 1 sn 0 0 8 (Ce 0)).1 zq0 zq0 (by rw[q4];exact hw) x3 x1
 obtain⟨y4,y5⟩:=A88 x n sn k zq0 x1 hs hch hl hk hw hn _ m1
 exact⟨y,_,_,m2,y1,y4,y5⟩
theorem A2a {b:List YB} {a0:A7} (hc:Ck b a0):Tot (fun r=>A0 r.1=true∧Ck b r.2) (Mz a0):=by
 unfold Mz Mq
 simp only[Ag,Ai,Ad,Ao]
 refine Aq (Ch _ hc zq4) (fun r1 ⟨⟨h1,h1b⟩,h1c⟩=>?_)
 refine Aq (Ch _ (Ap hc h1c) zq4) (fun r2 ⟨⟨h2,h2b⟩,h2c⟩=>?_)
 dsimp only at h1b h2b
 refine Aq (Dg _ (Ap hc h2c) (by rw[w64 zq0];omega)) (fun r3 ⟨⟨h3,h3w⟩,h3c⟩=>?_)
 rw[w64 (n:=1+r2.1.1) zq0]at h3
 refine Aq (Ch _ (Ap hc h3c) zq4) (fun r4 ⟨_,h4c⟩=>?_)
 refine Aq (Bay _) (fun a ha=>?_)
 have hi:1≤IntKind.i64.wrap (1+r1.1.1)∧IntKind.i64.wrap (1+r1.1.1)≤9:=by rw[w64 zq0];omega
 generalize IntKind.i64.wrap (1+r1.1.1)=i at hi
 have hp:Gx (r3.1.1,())=true:=A6.2 (by dsimp only at h3 ⊢;omega)
 rw[show Hy (i,()) r3.1 a=some (Kw i r3.1.1 a)from(P0 i r3.1.1 a hi hp ha).1,Aj]
 refine Aq (C9 _ 0 3 (Ap hc h4c) zq4 zq4) (fun r7 ⟨_,h7c⟩=>?_)
 refine Ax (fun _=>Ak ⟨(P0 i r3.1.1 a hi hp ha).2,Ap hc h7c⟩) (fun _=>?_)
 refine Aq (C9 _ 0 90 (Ap hc h7c) zq4 zq4) (fun r8 ⟨h8,h8c⟩=>?_)
 have h8:0≤r8.1.1∧r8.1.1≤1000000:=by omega
 refine Aq (Dg _ (Ap hc h8c) zq4) (fun r9 ⟨⟨h9,_⟩,h9c⟩=>?_)
 have h9:r9.1.1.length=12:=h9
 obtain⟨fs,ns,hd⟩:=Ba1 i r3.1.1 a r8.1 r9.1.1 hi hp ha h9 h8
 rw[show N0 (Kw i r3.1.1 a) r8.1 r9.1=_ from hd,Aj]
 refine Aq (Ch _ (Ap hc h9c) zq4) (fun r11 ⟨_,h11c⟩=>?_)
 dsimp only[Mg]
 refine Aq (Lq (true,r8.1.1+1,1,1,()) _ (C7 r8.1 h8).2) (fun r12 h12=>?_)
 have hT:r12.1.1=true∧Bp r12.1=true:=⟨h12.2.2.2.1 (h12.2.2.2.2.2.2 (show(1:Int)≠5 by decide)),h12.1⟩
 have hD:=Azz (t:=r12.1) hi hp ha h9 hT
 refine Ax (fun _=>Ak ⟨hD,Ap hc h11c⟩) (fun _=>?_)
 refine Aq (Tot.both (Axk (Ap hc h11c)) (Ajy (Ap hc h11c))) (fun r13 ⟨⟨⟨g1,g2⟩,h13c⟩,⟨⟨g3,g4⟩,_⟩⟩=>?_)
 obtain⟨x,fs1,ns1,e2,x1,x2,x3,hst,hct,hch,hek,hsn⟩:=Bdf i r3.1.1 a r9.1.1 r12.1 r8.1 r13.1 hi hp ha h9 hT h8 g1 g2 zq0 g4
 refine Aq (Q:=fun r=>r=(x,fs1,ns1)) ⟨_,e2,rfl⟩ (fun r14 e14=>?_)
 subst e14
 dsimp only
 refine Ax (fun _=>?_) (fun _=>?_)
 ·refine Aq (Ch _ (Ap hc h13c) zq4) (fun r15 ⟨⟨h15,h15b⟩,h15c⟩=>?_)
  dsimp only at h15b
  exact Bde h8 zq0 (Ap hc h15c) x1 hst (by have:=(C7 r8.1 h8).2;rw[←hct]at this;exact this)
 ·rw[show H0 ((0:Int),())=_ from Aou 0,Aj]
  have hq1:x.2.2.2.2.2.2.2.2.2.2.2.2.2.2.2.2.2.2.1=r13.1.2.2.2.1:=congrArg (fun c:Af=>c.2.1) hch
  have hq2:x.2.2.2.2.2.2.2.2.2.2.2.2.2.2.2.2.2.2.2.2.1=Ei r3.1.1 r9.1.1 r13.1.2.2.2.1 0:=congrArg (fun c:Af=>c.2.2.2.1) hch
  rw[hq1,hq2]
  rw[Ay8 _ _ _ _ _ _ _ zq0 (by have:=Abz 0;omega),Aj]
  obtain⟨y,fs3,ns3,m2,y1,y4,y5⟩:=Bdg x r8.1 r13.1.2.2.2.1 _ h8 x1 x2 x3 hst hch hsn hek g4
  refine Aq (Q:=fun r=>r=(y,fs3,ns3)) ⟨_,m2,rfl⟩ (fun r22 e22=>?_)
  subst e22
  dsimp only
  refine Aq (Cw _ (Ap hc h13c) zq4) (fun r23 h23c=>?_)
  refine Ax (fun _=>?_) (fun _=>Ak ⟨y1,Ap hc h23c⟩)
  refine Aq (Azx (Ap hc h23c)) (fun r24 ⟨⟨z1,z2⟩,h24c⟩=>?_)
  refine Ax (fun hb=>?_) (fun hb=>?_)
  ·have hb:decide (((Bl r24.1).length:Int)>0)=true:=hb
   refine Aq (A19 r8.1 h8 (Ap hc h24c)) (fun r25 ⟨z3,h25c⟩=>?_)
   refine Ax (fun ho=>?_) (fun ho=>?_)
   ·refine Aq (Q:=fun r=>r=(true,r8.1.1+1,1,1,())) ⟨_,(C7 r8.1 h8).1,rfl⟩ (fun r26 e=>?_)
    subst e
    exact Ak ⟨Nc (r:=(true,r8.1.1+1,1,1,())) y1 y4 z1 z2 (C7 r8.1 h8).2 (by rw[hb]),Ap hc h25c⟩
   ·exact Ak ⟨Nc (r:=r25.1) y1 y4 z1 z2 z3 (by rw[hb];simpa using ho),Ap hc h25c⟩
  ·have hb:decide (((Bl r24.1).length:Int)>0)=false:=hb
   exact Ak ⟨Nc (r:=clR y) y1 y4 z1 z2 (Th y1 y4).2.2.2.2.2.1 (by rw[hb];exact y5),Ap hc h24c⟩
theorem Auk (d:YBs) (hl:d.1.length≤1048576):Tot (fun r=>(A0 r.1=true∧(0≤r.2.1∧r.2.1≤152))∧(Al r.1≤20000∧wfB (Bm r.1).2.1)) (Qy d):=by
 unfold Qy Qo
 simp only[Ag,Ai,Ad,Ao]
 refine Aq (A7b d hl) (fun r1 h1=>?_)
 refine Aq (Tot.both (A2a h1) (A16 h1)) (fun r2 ⟨⟨q1,h2⟩,q2,_⟩=>?_)
 refine Aq (C9 _ 0 152 (Ap h1 h2) zq4 zq4) (fun r3 ⟨h3,_⟩=>?_)
 exact Ak ⟨⟨q1,h3⟩,q2⟩
end
end Go.Proofs.YtmhhajdeafijmaaGreat
