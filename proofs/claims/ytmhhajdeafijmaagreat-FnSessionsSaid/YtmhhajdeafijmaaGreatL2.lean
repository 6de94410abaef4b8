/-
  That the program and the reference answer alike, in plain terms, and that the laws answer true.
-/
import Derived.Test.YtmhhajdeafijmaaGreatL1
namespace Go.Proofs.YtmhhajdeafijmaaGreat
open Go.RowKit
set_option linter.unusedVariables false
set_option linter.unusedSimpArgs false
set_option maxHeartbeats 4000000
noncomputable section
theorem Rd (b c:Bool):br b (some (c,())) (some (false,()))=some (b && c,()):=by cases b<;>rfl
theorem A8k (b c:Bool):br b (some (true,())) (some (c,()))=some (b || c,()):=by cases b<;>rfl
theorem Vs (b c d:Bool):br b (some (c,())) (some (d,()))=some (bif b then c else d,()):=by cases b<;>rfl
def Du (a:Bu):Bool:=inR a.1 0 4294967295 && inR a.2.1 0 65535
theorem Kq (a:Bu):Ix a=some (Du a,()):=by
 unfold Ix Aek Du
 simp only[Ae,Ai,Ac,Cj,Ag,Rd]
theorem Sp (a:Bu):Iw a=some (Du a,()):=by
 unfold Iw Adv Du
 simp only[Ae,Ai,Ac,Cz,Ag,Rd]
theorem Hp (a:YBs):Dh a=some ((a.1.length:Int)==12,()):=rfl
theorem Xj (a:YI):Kn a=some (a.1==0 || a.1==1,()):=by
 unfold Kn Aeg
 simp only[Ae,Ac,A8k]
theorem Ac1 (n:Int):(n==0 || n==1)=inR n 0 1:=by
 apply Kr
 simp[inR]
 omega
def U3 (w:B8) (n:Int):Bool:=
 match idx w.2.1 ((n%1024)/32)with
 |some e=>IntKind.i64.wrap ((BitVec.ofInt (IntKind.i64.bits) (Int.fdiv e.1 (2^(min ((n%32)).toNat IntKind.i64.bits))) &&& BitVec.ofInt (IntKind.i64.bits) (1:Int)).toNat:Nat)==1
 |none=>false
theorem Anp (w:B8) (n:YI) (hl:w.2.1.length=32) (h0:0≤n.1):Q3 w n=some (U3 w n.1,()):=by
 obtain⟨e,he,_⟩:=Sq (l:=w.2.1) (n:=(n.1%1024)/32) zq0 zq0
 unfold Q3 Aei U3
 simp only[Ak,Ai,Ac,he,Ag]
 rw[Am h0,Am zq0,Am zq0]
 rfl
theorem Asf (w:B8) (n:YI) (hl:w.2.1.length=32) (h0:0≤n.1):T5 w n=some (U3 w n.1,()):=by
 obtain⟨e,he,_⟩:=Sq (l:=w.2.1) (n:=(n.1%1024)/32) zq0 zq0
 unfold T5 Ah8 U3
 simp only[Ak,Ai,Ac,he,Ag]
 rw[Am h0,Am zq0,Am zq0,show(n.1%1024)%32=n.1%32 by omega]
 rfl
def Ei (l:List YI):Bool:=Hj (fun _ e=> !inR e.1 0 4294967295) l
theorem Aft (l:List YI) (n:Int) (hl:l.length≤4294967296):Mj (l,()) (n,())=some (Ei l && ((l.length:Int)==n),()):=by
 have h:=Kb (B:=Jq) l (fun i=>(l,n,l,(l.length:Int),(i:Int),())) (fun _ e=> !inR e.1 0 4294967295) (false,()) (l,n,())
  (fun i x hi hx=>by
   unfold Jq
   simp (disch:=omega) only[Ae,Ai,Ac,Et hi,A0,Cb hx,Ag,Cj,w64]
   rfl)
  (by unfold Jq;simp only[Ae,Ai,Ac,Eu,An])
 unfold Mj Wr
 simp only[Ai,Hb,Ac]
 rw[show((0:Int))=((0:Nat):Int)from rfl,h]
 unfold Ei
 cases Hj (fun _ (e:YI)=> !inR e.1 0 4294967295) l<;>rfl
def Vx (w:B8):Bool:=Hj (fun i (_:Unit)=>U3 w (w.1+1+(i:Nat))) (List.replicate (1024-(w.1+1)).toNat ())
def Fz (w:B8):Bool:=inR w.1 (-1) 281474976710655 && (Ei w.2.1 && ((w.2.1.length:Int)==32) && (Vx w && (w.1== -1 || U3 w w.1)))
theorem Bp {n lo hi:Int}:inR n lo hi=true↔lo≤n∧n≤hi:=by simp[inR]
theorem A4v (t:Int) (l:List YI) (hl:l.length=32) (h0: -1≤t) (h1:t≤281474976710655):Ay Lk (t+1,t,l,())=some (bif Vx (t,l,())then .inr (t,l,())else .inl (false,())):=by
 have h:=Ap9 (B:=Lk) (1024-(t+1)).toNat (fun i=>(t+1+(i:Nat),t,l,())) (fun i=>U3 (t,l,()) (t+1+(i:Nat))) (false,()) (t,l,())
  (fun i hi=>by
   unfold Lk
   simp (disch:=first|exact hl|(dsimp only;omega)|omega) only[Ae,Ai,Ac,Anp,Ag,w64]
   rw[Am zq0]
   simp only[A0]
   rw[show t+1+((i+1:Nat):Int)=t+1+(i:Int)+1 by omega])
  (by
   unfold Lk
   simp only[Ae,Ac]
   rw[C7 zq1])
 rw[show t+1=t+1+((0:Nat):Int) by simp,h]
 rfl
theorem A07 (w:B8) (hl:w.2.1.length≤4294967296):Zq w=some (Fz w,()):=by
 obtain⟨t,l,_⟩:=w
 simp only at hl
 unfold Zq Ais Fz
 simp (disch:=omega) only[Ae,Ai,Ac,Hb,Cj,Ag,Aft]
 cases h1:inR t (-1) 281474976710655 with
 |false=>rfl
 |true=>
  cases h2:(Ei l && ((l.length:Int)==32))with
  |false=>rfl
  |true=>
   have h1:=Bp.1 h1
   have h3:l.length=32:=by simp at h2;omega
   simp only[Bool.not_true,An]
   rw[w64 zq0,A4v t l h3 zq0 zq0]
   cases h4:Vx (t,l,())with
   |false=>rfl
   |true=>
    simp only[Ag,cond_true,Asg,Bool.true_and]
    by_cases h5:t= -1
    ·subst h5;rfl
    ·rw[Anp _ _ h3 zq2,Ag,A8k]
theorem A4w (t:Int) (l:List YI) (hl:l.length=32) (h0: -1≤t) (h1:t≤281474976710655):Ay Gj (t+1,t,l,())=some (bif Vx (t,l,())then .inr ()else .inl (false,())):=by
 have h:=Ap9 (B:=Gj) (1024-(t+1)).toNat (fun i=>(t+1+(i:Nat),t,l,())) (fun i=>U3 (t,l,()) (t+1+(i:Nat))) (false,()) ()
  (fun i hi=>by
   unfold Gj
   simp (disch:=first|exact hl|(dsimp only;omega)|omega) only[Ae,Ai,Ac,Asf,Ag,w64]
   rw[Am zq0]
   simp only[A0]
   rw[show t+1+((i+1:Nat):Int)=t+1+(i:Int)+1 by omega])
  (by
   unfold Gj
   simp only[Ae,Ac]
   rw[C7 zq1])
 rw[show t+1=t+1+((0:Nat):Int) by simp,h]
 rfl
theorem A2v (t:Int) (l:List YI) (hl:l.length=32):Ay Jb (0,t,l,())=some (bif Ei l then .inr (t,l,())else .inl (false,())):=by
 have h:=Kb (B:=Jb) l (fun i=>((i:Int),t,l,())) (fun _ e=> !inR e.1 0 4294967295) (false,()) (t,l,())
  (fun i x hi hx=>by
   unfold Jb
   rw[hl]at hi
   simp (disch:=omega) only[Ae,Ai,Ac,Cb hx,Ag,Cz,w64]
   rw[Am zq0]
   rfl)
  (by unfold Jb;simp only[Ae,Ai,Ac,hl];rfl)
 rw[show((0:Int))=((0:Nat):Int)from rfl,h]
 rfl
theorem A08 (w:B8):Zp w=some (Fz w,()):=by
 obtain⟨t,l,_⟩:=w
 unfold Zp Zi Fz
 simp only[Ae,Ai,Ac,Hb,Cz,Ag]
 by_cases h3:l.length=32
 ·rw[C7 (by simp[h3])]
  cases h1:inR t (-1) 281474976710655 with
  |false=>rfl
  |true=>
   have h1:=Bp.1 h1
   simp only[Bool.not_true,An]
   rw[A2v t l h3]
   cases h2:Ei l with
   |false=>rfl
   |true=>
    simp only[Ag,cond_true,Asg,Bool.true_and,h3]
    rw[w64 zq0,A4w t l h3 zq0 zq0]
    by_cases h5:t= -1
    ·subst h5
     rw[C7 zq3]
     cases Vx (-1,l,())<;>rfl
    ·rw[Fh zq1,Asf _ _ h3 zq2,Ag]
     have h6:(t== -1)=false:=by simpa using h5
     rw[h6]
     cases U3 (t,l,()) t<;>cases Vx (t,l,())<;>rfl
 ·rw[Fh (by simpa using (by omega: ¬((l.length:Int)=32)))]
  have:((l.length:Int)==32)=false:=by simpa using (by omega: ¬((l.length:Int)=32))
  rw[this]
  simp
def Dy (e:YEp):Bool:=inR e.1 0 4294967295 && (((e.2.1.length:Int)==32) && (inR e.2.2.1 0 281474976710656 && Fz (e.2.2.2.1,e.2.2.2.2.1,())))
theorem Aji (e:YEp) (h:e.2.2.2.2.1.length≤4294967296):Sf e=some (Dy e,()):=by
 unfold Sf Am4 Dy
 simp (disch:=first|exact h) only[Ae,Ai,Ac,Cj,Ag,Rd,A07]
theorem Aw2 (e:YEp):O7 e=some (Dy e,()):=by
 unfold O7 Awx Dy
 simp only[Ae,Ai,Ac,Cz,Ag,Rd,A08]
def ep0 (e:YEp):Bool:=(e.1==0) && (((e.2.1.length:Int)==0) && ((e.2.2.1==0) && ((e.2.2.2.1==0) && ((e.2.2.2.2.1.length:Int)==0))))
theorem Atx (e:YEp):N9 e=some (ep0 e,()):=by
 unfold N9 Al6 ep0
 simp only[Ae,Ac,Rd]
theorem Aty (l:List YB):Ez l []=((l.length:Int)==0):=by
 apply Kr
 unfold Ez Ls
 cases l<;>simp
 omega
theorem Ash (l:List YI):Xb (l,()) ([],())=some ((l.length:Int)==0,()):=by
 unfold Xb Wq
 simp only[Ae,Ai,Ac,Hb]
 cases l with
 |nil=>
  rw[C7 zq3]
  rw[C9]
  rfl
 |cons x r=>
  rw[Fh zq1]
  simp;omega
theorem Atz (e:YEp):Q2 e ((0:Int),[],(0:Int),(0:Int),[],())=some (ep0 e,()):=by
 unfold Q2 Aef ep0
 simp only[Ae,Ai,Ac,Oa,Aty,Ash,Ag,Rd]
def Aqa (c:Aj):Bool:=(c.1==0) && (((c.2.1.length:Int)==0) && (ep0 (c.2.2.1,c.2.2.2.1,c.2.2.2.2.1,c.2.2.2.2.2.1,c.2.2.2.2.2.2.1,()) && (ep0 (c.2.2.2.2.2.2.2.1,c.2.2.2.2.2.2.2.2.1,c.2.2.2.2.2.2.2.2.2.1,c.2.2.2.2.2.2.2.2.2.2.1,c.2.2.2.2.2.2.2.2.2.2.2.1,()) &&
 (!c.2.2.2.2.2.2.2.2.2.2.2.2.1 && ((c.2.2.2.2.2.2.2.2.2.2.2.2.2.1==0) && ((c.2.2.2.2.2.2.2.2.2.2.2.2.2.2.1.length:Int)==0))))))
theorem Aw3 (c:Aj):Se c=some (Aqa c,()):=by
 unfold Se Sa Aqa
 simp only[Ae,Ai,Ac,Atz,Ag,Rd]
theorem Az3 (c:Aj):U0 c=some (Aqa c,()):=by
 unfold U0 Ahh Aqa
 simp only[Ae,Ai,Ac,Atx,Ag,Rd]
abbrev Ia (c:Aj):YEp:=(c.2.2.1,c.2.2.2.1,c.2.2.2.2.1,c.2.2.2.2.2.1,c.2.2.2.2.2.2.1,())
abbrev Ov (c:Aj):YEp:=(c.2.2.2.2.2.2.2.1,c.2.2.2.2.2.2.2.2.1,c.2.2.2.2.2.2.2.2.2.1,c.2.2.2.2.2.2.2.2.2.2.1,c.2.2.2.2.2.2.2.2.2.2.2.1,())
abbrev Re (c:Aj):Bool:=c.2.2.2.2.2.2.2.2.2.2.2.2.1
abbrev Sr (c:Aj):Int:=c.2.2.2.2.2.2.2.2.2.2.2.2.2.1
abbrev I0 (c:Aj):List YB:=c.2.2.2.2.2.2.2.2.2.2.2.2.2.2.1
def Ib (c:Aj):Bool:=bif !Re c then ep0 (Ov c) && (Sr c==0)else
 !!Dy (Ov c) && (!((Ov c).1 != IntKind.i64.wrap ((Ia c).1-1)) && (inR (Sr c) 0 1000005 || ((Sr c== -1) && (c.1==1))))
def Bt (c:Aj):Bool:= !!(c.1==0 || c.1==1) && (!!((c.2.1.length:Int)==12) && (!!Dy (Ia c) && (!!Ib c && (((I0 c).length:Int)==0 || ((c.1==0) && ((((I0 c).length:Int)==32) && decide ((Ia c).1<4294967295)))))))
theorem A8q (c:Aj) (h:(Ov c).2.2.2.2.1.length≤4294967296):Ai9 c=some (Ib c,()):=by
 unfold Ai9 Ait Ib
 simp (disch:=first|exact h) only[Ae,Ai,Ac,Atz,Ag,Aji,Cj,Vs,Bool.cond_false_right,Bool.cond_true_left,Bool.cond_false_left]
theorem Mp (c:Aj) (h1:(Ia c).2.2.2.2.1.length≤4294967296) (h2:(Ov c).2.2.2.2.1.length≤4294967296):Hh c=some (Bt c,()):=by
 unfold Hh Aej Bt
 simp (disch:=first|exact h1|exact h2) only[Ae,Ai,Ac,Xj,Hp,Ag,Aji,A8q,Vs,Bool.cond_false_right,Bool.cond_true_left,Bool.cond_false_left]
theorem Mq (c:Aj):Hi c=some (Bt c,()):=by
 obtain⟨role,sn,n1,k1,q1,t1,b1,n2,k2,q2,t2,b2,has,til,next,_⟩:=c
 unfold Hi Ap0 Bt Ib
 simp only[Ae,Ai,Ac,Cz,Ag,Aw2,Atx,Vs,Bool.cond_false_right,Bool.cond_true_left,Bool.cond_false_left,Ac1,Ia,Ov,Re,Sr,I0]
 refine congrArg (fun b=>some (b,())) ?_
 cases h1:inR role 0 1 with
 |false=>rfl
 |true=>
  have h1:=Bp.1 h1
  cases has with
  |false=>simp[bne,Bool.and_assoc]
  |true=>
   rcases(show role=0∨role=1 by omega)with rfl|rfl
   ·simp[bne,Bool.and_assoc]
   ·have e2:inR til (-1) 1000005=(inR til 0 1000005 || til== -1):=by
     apply Kr;simp[inR];omega
    simp[bne,Bool.and_assoc,e2]
end
end Go.Proofs.YtmhhajdeafijmaaGreat
