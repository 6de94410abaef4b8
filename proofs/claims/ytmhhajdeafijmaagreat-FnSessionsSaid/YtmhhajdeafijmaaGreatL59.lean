/-
  That the program and the reference answer alike, in plain terms, and that the laws answer true.
-/
import Derived.Test.YtmhhajdeafijmaaGreatL58
namespace Go.Proofs.YtmhhajdeafijmaaGreat
open Go.RowKit
set_option linter.unusedVariables false
set_option linter.unusedSimpArgs false
set_option maxRecDepth 100000
set_option maxHeartbeats 8000000
noncomputable section
theorem Tot.both {α:Type} {P Q:α→Prop} {o:Option α} (h:Tot P o) (k:Tot Q o):Tot (fun a=>P a∧Q a) o:=by
 obtain⟨a,rfl,p⟩:=h
 obtain⟨c,e,q⟩:=k
 cases e
 exact⟨a,rfl,p,q⟩
theorem Uf {i:Int} {cn sn:List YB} {c0:Int} {c1:List YB} {c2:Int} {c3:List YB} {c4 c5:Int} {c6:List YI} {c7:Int} {c8:List YB} {c9 c10:Int} {c11:List YI} {c12:Bool} {c13:Int} {c14:List YB} {p0 p1:Int} {p2:List Al} {t la:Int}
  (h1:1≤i∧i≤9) (h2:cn.length=12) (h3:sn.length=12) (h4:Bt (c0,c1,c2,c3,c4,c5,c6,c7,c8,c9,c10,c11,c12,c13,c14,())=true) (h5:c0=1) (h6:Ez c1 sn=true) (h7:Ct (p0,p1,p2,())=true) (h8:0≤t∧t≤1000000) (h9:0≤la∧la≤1000000):
  Fq (i,cn,sn,c0,c1,c2,c3,c4,c5,c6,c7,c8,c9,c10,c11,c12,c13,c14,p0,p1,p2,t,la,false,())=true:=by
 unfold Fq
 dsimp only[Ck,A5,Aqb,Rf,Lc]
 rw[h4,h7,Bp.2 h1,Bp.2 h8,Bp.2 h9,h6,h5,h2,h3]
 rfl
theorem Vu {s:Bd} (h:Fq s=true) (hd:Lc s=false):(1≤s.1∧s.1≤9)∧s.2.1.length=12∧s.2.2.1.length=12∧(0≤Aqb s∧Aqb s≤1000000)∧Bt (Ck s)=true∧s.2.2.2.1=1∧Ez s.2.2.2.2.1 s.2.2.1=true∧Ct (A5 s)=true∧(0≤Rf s∧Rf s≤1000000):=by
 unfold Fq at h
 rw[hd]at h
 simp only[cond_false,Bool.and_eq_true,Bp,beq_iff_eq]at h
 obtain⟨h1,h2,h3,h4,h5,h6,h7,h8,h9⟩:=h
 exact⟨h1,by omega,by omega,h4,h5,h6,h7,h8,h9⟩
theorem Avr {b:List YB} {a0:Az} (hc:B9 b a0):Tot (fun r=>(Cq r.1=true∧r.1.1=2)∧B9 b r.2) (La a0):=by
 unfold La Ol
 simp only[Ae,Ai,Ac,Ak]
 refine Ad (Cr _ hc zq4) (fun r1 ⟨⟨h1,_⟩,h1c⟩=>?_)
 refine Ad (Cr _ (Ab hc h1c) zq4) (fun r2 ⟨⟨h2,_⟩,h2c⟩=>?_)
 refine Ad (Bg _ (Ab hc h2c) zq4) (fun r3 ⟨h3,h3c⟩=>?_)
 refine Ad (Cr _ (Ab hc h3c) zq4) (fun r4 ⟨⟨h4,_⟩,h4c⟩=>?_)
 refine Ah ⟨⟨?_,rfl⟩,Ab hc h4c⟩
 have h1:r1.1.1.length=12:=h1
 have h2:r2.1.1.length=12:=h2
 have h4:r4.1.1.length=16:=h4
 dsimp only at h3
 have h3':inR r3.1.1 0 1000000=true:=Bp.2 zq0
 unfold Cq
 simp[h1,h2,h4,h3',show inR 2 4 8=false by decide]
theorem A0k (p:List YB) (n:YI) (a:Bu) (f:Aq) (hp:Nl (p,())=true) (hn:0≤n.1∧n.1≤1000000) (ha:Du a=true) (hf:Cq f=true) (hk:f.1=3) (hi:1≤f.2.1∧f.2.1≤9) (hc:f.2.2.1.length=12) (hs:f.2.2.2.1.length=12) (ht:0≤f.2.2.2.2.1∧f.2.2.2.2.1≤1000000):Tot (fun s=>Fq s=true∧Lc s=false) (N5 (p,()) n a f):=by
 have hek:=Axp (p:=p) hp hc hs
 unfold N5 Tf
 simp only[Ae,Ai,Ac,Ak,List.length_nil,List.nil_append,Nat.zero_add]
 rw[Akr,Ag,hp,Cz,Sp,Mr]
 simp only[Ag,Bool.not_true,An]
 rw[Bp.2 hn,ha,hf,show(f.1 != (3:Int))=false by simp[hk]]
 simp only[Bool.not_true,An]
 rw[Am zq0,Am zq0,Ba,Ba,Aql,Ag,show Ho ((1:Int),()) (f.2.2.2.1,()) (Xo p f.2.2.1 f.2.2.2.1 0,())=_ from(Amk 1 f.2.2.2.1 _ (.inr rfl) hs hek).2,Ag,show Mi a=some (a.1,a.2.1,[],())from rfl,Ag]
 exact Ah ⟨Uf hi hc hs (A0b (.inr rfl) hs hek) rfl (Rh _) (Gf.2 ⟨ha,by simp,(fun x hx=>by cases hx),List.Pairwise.nil⟩) ht hn,rfl⟩
theorem A0l {b:List YB} {a0:Az} (hc:B9 b a0):Tot (fun r=>(Fq r.1=true∧Lc r.1=false)∧B9 b r.2) (N7 a0):=by
 unfold N7 Tj
 simp only[Ae,Ai,Ac,Ak]
 refine Ad (Cr _ hc zq4) (fun r1 ⟨⟨h1,_⟩,h1c⟩=>?_)
 refine Ad (Bg _ (Ab hc h1c) zq4) (fun r2 ⟨⟨h2,h2b⟩,h2c⟩=>?_)
 dsimp only at h2b
 refine Ad (Avr (Ab hc h2c)) (fun r3 ⟨⟨h3,h3k⟩,h3c⟩=>?_)
 obtain⟨a1,a2,a3,_⟩:=Ajv h3 h3k
 have hw:IntKind.i64.wrap ((1:Int)+r2.1.1)=1+r2.1.1:=w64 zq0
 have h1:r1.1.1.length=16:=h1
 obtain⟨_,g2,g3⟩:=Avm r1.1.1 (1+r2.1.1) r3.1 (by unfold Nl;rw[Bp];dsimp only;omega) zq0 h3 h3k
 rw[hw,show Jz r1.1 (1+r2.1.1,()) r3.1=_ from g2,Ag]
 refine Ad (Cr _ (Ab hc h3c) zq4) (fun r5 ⟨⟨h5,_⟩,h5c⟩=>?_)
 have h5:r5.1.1.length=16:=h5
 refine Ad (B7 _ 0 90 (Ab hc h5c) zq4 zq4) (fun r6 ⟨h6,h6c⟩=>?_)
 refine Ad (Bg _ (Ab hc h6c) zq4) (fun r7 ⟨_,h7c⟩=>?_)
 refine Ad (A1n _) (fun r8 h8=>?_)
 refine Ad (A0k r5.1.1 r6.1 r8 _ (by unfold Nl;rw[Bp];dsimp only;omega) zq0 h8 g3 rfl (by show 1≤1+r2.1.1∧1+r2.1.1≤9;omega) a1 a2 a3) (fun r9 ⟨h9,h9d⟩=>?_)
 obtain⟨q1,q2,q3,q4,q5,q6,q7,q8,q9⟩:=Vu h9 h9d
 have hd:r9.2.2.2.2.2.2.2.2.2.2.2.2.2.2.2.2.2.2.2.2.2.2.2.1=false:=h9d
 refine Ad (As _ (Ab hc h7c) zq4) (fun r10 h10c=>?_)
 refine Ao (fun _=>?_) (fun _=>?_)
 ·refine Ad (Axx (Ab hc h10c)) (fun r11 ⟨⟨h11,h11r⟩,h11c⟩=>?_)
  have h11s:r11.1.2.1.length=12:=(El h11).2.1
  refine Ad (As _ (Ab hc h11c) zq4) (fun r12 h12c=>?_)
  refine Ao (fun _=>?_) (fun _=>?_)
  ·refine Ad (Amo (Ab hc h12c)) (fun r13 ⟨h13,h13c⟩=>?_)
   rw[hd]
   exact Ah ⟨⟨Uf q1 q2 h11s h11 h11r (Rh _) h13 q4 q9,rfl⟩,Ab hc h13c⟩
  ·rw[hd]
   exact Ah ⟨⟨Uf q1 q2 h11s h11 h11r (Rh _) q8 q4 q9,rfl⟩,Ab hc h12c⟩
 ·refine Ad (As _ (Ab hc h10c) zq4) (fun r14 h14c=>?_)
  refine Ao (fun _=>?_) (fun _=>?_)
  ·refine Ad (Amo (Ab hc h14c)) (fun r15 ⟨h15,h15c⟩=>?_)
   rw[hd]
   exact Ah ⟨⟨Uf q1 q2 q3 q5 q6 q7 h15 q4 q9,rfl⟩,Ab hc h15c⟩
  ·exact Ah ⟨⟨h9,h9d⟩,Ab hc h14c⟩
theorem Axy (a0:YBs) (hl:a0.1.length≤1048576):Tot (fun r=>(SP 20000 r.1∧Fq r.1=true∧Lc r.1=false)∧(0≤r.2.1.1∧r.2.1.1≤10)∧(Ar r.2.2.2.1≤50000∧wfB r.2.2.2.1.2.2.2.1)∧r.2.2.2.2.1.length=12) (W9 a0):=by
 unfold W9 Wn
 simp only[Ae,Ai,Ac,Ak]
 refine Ad (A5p _ hl) (fun r1 h1c=>?_)
 refine Ad ((A0j h1c).both (A0l h1c)) (fun r2 ⟨⟨h2,h2c⟩,⟨h2v,_⟩⟩=>?_)
 have hs:SP 20000 r2.1:=⟨Nat.le_trans h2.1 zq4,h2.2⟩
 refine Ad (Axw _ (Ab h1c h2c) hs) (fun r3 ⟨h3,h3c⟩=>?_)
 have c3:B9 a0.1 (r1.1,r3.2.2.2.1,r3.2.2.2.2.1,()):=by have:=Ab h1c h3c;exact this
 refine Ad (B7 _ 0 10 c3 zq4 zq4) (fun r4 ⟨h4,h4c⟩=>?_)
 exact Ad (Cr _ (Ab h1c h4c) zq4) (fun r5 ⟨⟨h5,_⟩,_⟩=>Ah ⟨⟨hs,h2v⟩,h4,h3,h5⟩)
end
end Go.Proofs.YtmhhajdeafijmaaGreat
