/-
  That the program and the reference answer alike, in plain terms, and that the laws answer true.
-/
import Derived.Test.YtmhhajdeafijmaaGreatL1
namespace Go.Proofs.YtmhhajdeafijmaaGreat
open Go.RowKit
set_option linter.unusedVariables false
set_option linter.unusedSimpArgs false
set_option maxHeartbeats 4000000
noncomputable section
theorem Ql (b c:Bool):br b (some (c,())) (some (false,()))=some (b && c,()):=by cases b<;>rfl
theorem A8i (b c:Bool):br b (some (true,())) (some (c,()))=some (b || c,()):=by cases b<;>rfl
theorem U2 (b c d:Bool):br b (some (c,())) (some (d,()))=some (bif b then c else d,()):=by cases b<;>rfl
def Id (a:Bw):Bool:=inR a.1 0 4294967295 && inR a.2.1 0 65535
theorem Afn (a:Bw):Mi a=some (Id a,()):=by
 unfold Mi Ad5 Id
 simp only[Af,Ah,Ac,C9,Ai,Ql]
theorem W0 (a:Bw):H5 a=some (Id a,()):=by
 unfold H5 Ac5 Id
 simp only[Af,Ah,Ac,C4,Ai,Ql]
theorem Ot (a:YBs):Dw a=some ((a.1.length:Int)==12,()):=rfl
theorem Afo (a:YI):Mh a=some (a.1==0 || a.1==1,()):=by
 unfold Mh Ad2
 simp only[Af,Ac,A8i]
theorem Akz (n:Int):(n==0 || n==1)=inR n 0 1:=by
 apply J2
 simp[inR]
 omega
def Ud (w:Bv) (n:Int):Bool:=
 match idx w.2.1 ((n%1024)/32)with
 |some e=>IntKind.i64.wrap ((BitVec.ofInt (IntKind.i64.bits) (Int.fdiv e.1 (2^(min ((n%32)).toNat IntKind.i64.bits))) &&& BitVec.ofInt (IntKind.i64.bits) (1:Int)).toNat:Nat)==1
 |none=>false
theorem Any (w:Bv) (n:YI) (hl:w.2.1.length=32) (h0:0≤n.1):Po w n=some (Ud w n.1,()):=by
 obtain⟨e,he,_⟩:=Rl (l:=w.2.1) (n:=(n.1%1024)/32) zq0 zq0
 unfold Po Ad3 Ud
 simp only[An,Ah,Ac,he,Ai]
 rw[Al h0,Al zq0,Al zq0]
 rfl
theorem Asj (w:Bv) (n:YI) (hl:w.2.1.length=32) (h0:0≤n.1):Sy w n=some (Ud w n.1,()):=by
 obtain⟨e,he,_⟩:=Rl (l:=w.2.1) (n:=(n.1%1024)/32) zq0 zq0
 unfold Sy Ah0 Ud
 simp only[An,Ah,Ac,he,Ai]
 rw[Al h0,Al zq0,Al zq0,show(n.1%1024)%32=n.1%32 by omega]
 rfl
def D8 (l:List YI):Bool:=G3 (fun _ e=> !inR e.1 0 4294967295) l
theorem Afp (l:List YI) (n:Int) (hl:l.length≤4294967296):K9 (l,()) (n,())=some (D8 l && ((l.length:Int)==n),()):=by
 have h:=Jt (B:=I8) l (fun i=>(l,n,l,(l.length:Int),(i:Int),())) (fun _ e=> !inR e.1 0 4294967295) (false,()) (l,n,())
  (fun i x hi hx=>by
   unfold I8
   simp (disch:=omega) only[Af,Ah,Ac,En hi,Az,Ce hx,Ai,C9,w64]
   rfl)
  (by unfold I8;simp only[Af,Ah,Ac,Eo,Ap])
 unfold K9 V0
 simp only[Ah,Hp,Ac]
 rw[show((0:Int))=((0:Nat):Int)from rfl,h]
 unfold D8
 cases G3 (fun _ (e:YI)=> !inR e.1 0 4294967295) l<;>rfl
def U7 (w:Bv):Bool:=G3 (fun i (_:Unit)=>Ud w (w.1+1+(i:Nat))) (List.replicate (1024-(w.1+1)).toNat ())
def I2 (w:Bv):Bool:=inR w.1 (-1) 281474976710655 && (D8 w.2.1 && ((w.2.1.length:Int)==32) && (U7 w && (w.1== -1 || Ud w w.1)))
theorem C6 {n lo hi:Int}:inR n lo hi=true↔lo≤n∧n≤hi:=by simp[inR]
theorem A4s (t:Int) (l:List YI) (hl:l.length=32) (h0: -1≤t) (h1:t≤281474976710655):Ay Kq (t+1,t,l,())=some (bif U7 (t,l,())then .inr (t,l,())else .inl (false,())):=by
 have h:=Aqf (B:=Kq) (1024-(t+1)).toNat (fun i=>(t+1+(i:Nat),t,l,())) (fun i=>Ud (t,l,()) (t+1+(i:Nat))) (false,()) (t,l,())
  (fun i hi=>by
   unfold Kq
   simp (disch:=first|exact hl|(dsimp only;omega)|omega) only[Af,Ah,Ac,Any,Ai,w64]
   rw[Al zq0]
   simp only[Az]
   rw[show t+1+((i+1:Nat):Int)=t+1+(i:Int)+1 by omega])
  (by
   unfold Kq
   simp only[Af,Ac]
   rw[Dv zq1])
 rw[show t+1=t+1+((0:Nat):Int) by simp,h]
 rfl
theorem A08 (w:Bv) (hl:w.2.1.length≤4294967296):Xn w=some (I2 w,()):=by
 obtain⟨t,l,_⟩:=w
 simp only at hl
 unfold Xn Aid I2
 simp (disch:=omega) only[Af,Ah,Ac,Hp,C9,Ai,Afp]
 cases h1:inR t (-1) 281474976710655 with
 |false=>rfl
 |true=>
  cases h2:(D8 l && ((l.length:Int)==32))with
  |false=>rfl
  |true=>
   have h1:=C6.1 h1
   have h3:l.length=32:=by simp at h2;omega
   simp only[Bool.not_true,Ap]
   rw[w64 zq0,A4s t l h3 zq0 zq0]
   cases h4:U7 (t,l,())with
   |false=>rfl
   |true=>
    simp only[Ai,cond_true,Ask,Bool.true_and]
    by_cases h5:t= -1
    ·subst h5;rfl
    ·rw[Any _ _ h3 zq2,Ai,A8i]
theorem A4t (t:Int) (l:List YI) (hl:l.length=32) (h0: -1≤t) (h1:t≤281474976710655):Ay F5 (t+1,t,l,())=some (bif U7 (t,l,())then .inr ()else .inl (false,())):=by
 have h:=Aqf (B:=F5) (1024-(t+1)).toNat (fun i=>(t+1+(i:Nat),t,l,())) (fun i=>Ud (t,l,()) (t+1+(i:Nat))) (false,()) ()
  (fun i hi=>by
   unfold F5
   simp (disch:=first|exact hl|(dsimp only;omega)|omega) only[Af,Ah,Ac,Asj,Ai,w64]
   rw[Al zq0]
   simp only[Az]
   rw[show t+1+((i+1:Nat):Int)=t+1+(i:Int)+1 by omega])
  (by
   unfold F5
   simp only[Af,Ac]
   rw[Dv zq1])
 rw[show t+1=t+1+((0:Nat):Int) by simp,h]
 rfl
theorem A2n (t:Int) (l:List YI) (hl:l.length=32):Ay Iq (0,t,l,())=some (bif D8 l then .inr (t,l,())else .inl (false,())):=by
 have h:=Jt (B:=Iq) l (fun i=>((i:Int),t,l,())) (fun _ e=> !inR e.1 0 4294967295) (false,()) (t,l,())
  (fun i x hi hx=>by
   unfold Iq
   rw[hl]at hi
   simp (disch:=omega) only[Af,Ah,Ac,Ce hx,Ai,C4,w64]
   rw[Al zq0]
   rfl)
  (by unfold Iq;simp only[Af,Ah,Ac,hl];rfl)
 rw[show((0:Int))=((0:Nat):Int)from rfl,h]
 rfl
theorem A09 (w:Bv):Xl w=some (I2 w,()):=by
 obtain⟨t,l,_⟩:=w
 unfold Xl Xk I2
 simp only[Af,Ah,Ac,Hp,C4,Ai]
 by_cases h3:l.length=32
 ·rw[Dv (by simp[h3])]
  cases h1:inR t (-1) 281474976710655 with
  |false=>rfl
  |true=>
   have h1:=C6.1 h1
   simp only[Bool.not_true,Ap]
   rw[A2n t l h3]
   cases h2:D8 l with
   |false=>rfl
   |true=>
    simp only[Ai,cond_true,Ask,Bool.true_and,h3]
    rw[w64 zq0,A4t t l h3 zq0 zq0]
    by_cases h5:t= -1
    ·subst h5
     rw[Dv (by simp)]
     cases U7 (-1,l,())<;>rfl
    ·rw[F3 zq1,Asj _ _ h3 zq2,Ai]
     have h6:(t== -1)=false:=by simpa using h5
     rw[h6]
     cases Ud (t,l,()) t<;>cases U7 (t,l,())<;>rfl
 ·rw[F3 (by simpa using (by omega: ¬((l.length:Int)=32)))]
  have:((l.length:Int)==32)=false:=by simpa using (by omega: ¬((l.length:Int)=32))
  rw[this]
  simp
def Es (e:YEp):Bool:=inR e.1 0 4294967295 && (((e.2.1.length:Int)==32) && (inR e.2.2.1 0 281474976710656 && I2 (e.2.2.2.1,e.2.2.2.2.1,())))
theorem Aqg (e:YEp) (h:e.2.2.2.2.1.length≤4294967296):Rc e=some (Es e,()):=by
 unfold Rc Am4 Es
 simp (disch:=first|exact h) only[Af,Ah,Ac,C9,Ai,Ql,A08]
theorem Aw3 (e:YEp):N7 e=some (Es e,()):=by
 unfold N7 Am2 Es
 simp only[Af,Ah,Ac,C4,Ai,Ql,A09]
def ep0 (e:YEp):Bool:=(e.1==0) && (((e.2.1.length:Int)==0) && ((e.2.2.1==0) && ((e.2.2.2.1==0) && ((e.2.2.2.2.1.length:Int)==0))))
theorem Aty (e:YEp):M7 e=some (ep0 e,()):=by
 unfold M7 Z3 ep0
 simp only[Af,Ac,Ql]
theorem Atz (l:List YB):E4 l []=((l.length:Int)==0):=by
 apply J2
 unfold E4 Ku
 cases l<;>simp
 omega
theorem Asl (l:List YI):Vz (l,()) ([],())=some ((l.length:Int)==0,()):=by
 unfold Vz Vy
 simp only[Af,Ah,Ac,Hp]
 cases l with
 |nil=>
  rw[Dv (by simp)]
  rw[Cz]
  rfl
 |cons x r=>
  rw[F3 zq1]
  simp;omega
theorem At0 (e:YEp):Pn e ((0:Int),[],(0:Int),(0:Int),[],())=some (ep0 e,()):=by
 unfold Pn Ad1 ep0
 simp only[Af,Ah,Ac,Kr,Atz,Asl,Ai,Ql]
def Aqh (c:Aj):Bool:=(c.1==0) && (((c.2.1.length:Int)==0) && (ep0 (c.2.2.1,c.2.2.2.1,c.2.2.2.2.1,c.2.2.2.2.2.1,c.2.2.2.2.2.2.1,()) && (ep0 (c.2.2.2.2.2.2.2.1,c.2.2.2.2.2.2.2.2.1,c.2.2.2.2.2.2.2.2.2.1,c.2.2.2.2.2.2.2.2.2.2.1,c.2.2.2.2.2.2.2.2.2.2.2.1,()) &&
 (!c.2.2.2.2.2.2.2.2.2.2.2.2.1 && ((c.2.2.2.2.2.2.2.2.2.2.2.2.2.1==0) && ((c.2.2.2.2.2.2.2.2.2.2.2.2.2.2.1.length:Int)==0))))))
theorem Aw4 (c:Aj):Rb c=some (Aqh c,()):=by
 unfold Rb Ra Aqh
 simp only[Af,Ah,Ac,At0,Ai,Ql]
theorem A0a (c:Aj):Tw c=some (Aqh c,()):=by
 unfold Tw Tv Aqh
 simp only[Af,Ah,Ac,Aty,Ai,Ql]
abbrev I1 (c:Aj):YEp:=(c.2.2.1,c.2.2.2.1,c.2.2.2.2.1,c.2.2.2.2.2.1,c.2.2.2.2.2.2.1,())
abbrev Qk (c:Aj):YEp:=(c.2.2.2.2.2.2.2.1,c.2.2.2.2.2.2.2.2.1,c.2.2.2.2.2.2.2.2.2.1,c.2.2.2.2.2.2.2.2.2.2.1,c.2.2.2.2.2.2.2.2.2.2.2.1,())
abbrev Qm (c:Aj):Bool:=c.2.2.2.2.2.2.2.2.2.2.2.2.1
abbrev Rm (c:Aj):Int:=c.2.2.2.2.2.2.2.2.2.2.2.2.2.1
abbrev Ki (c:Aj):List YB:=c.2.2.2.2.2.2.2.2.2.2.2.2.2.2.1
def K5 (c:Aj):Bool:=bif !Qm c then ep0 (Qk c) && (Rm c==0)else
 !!Es (Qk c) && (!((Qk c).1 != IntKind.i64.wrap ((I1 c).1-1)) && (inR (Rm c) 0 1000005 || ((Rm c== -1) && (c.1==1))))
def Ci (c:Aj):Bool:= !!(c.1==0 || c.1==1) && (!!((c.2.1.length:Int)==12) && (!!Es (I1 c) && (!!K5 c && (((Ki c).length:Int)==0 || ((c.1==0) && ((((Ki c).length:Int)==32) && decide ((I1 c).1<4294967295)))))))
theorem A8p (c:Aj) (h:(Qk c).2.2.2.2.1.length≤4294967296):Aif c=some (K5 c,()):=by
 unfold Aif Aie K5
 simp (disch:=first|exact h) only[Af,Ah,Ac,At0,Ai,Aqg,C9,U2,Bool.cond_false_right,Bool.cond_true_left,Bool.cond_false_left]
theorem Lr (c:Aj) (h1:(I1 c).2.2.2.2.1.length≤4294967296) (h2:(Qk c).2.2.2.2.1.length≤4294967296):Fz c=some (Ci c,()):=by
 unfold Fz Ad4 Ci
 simp (disch:=first|exact h1|exact h2) only[Af,Ah,Ac,Afo,Ot,Ai,Aqg,A8p,U2,Bool.cond_false_right,Bool.cond_true_left,Bool.cond_false_left]
theorem Ls (c:Aj):Gw c=some (Ci c,()):=by
 obtain⟨role,sn,n1,k1,q1,t1,b1,n2,k2,q2,t2,b2,has,til,next,_⟩:=c
 unfold Gw Adl Ci K5
 simp only[Af,Ah,Ac,C4,Ai,Aw3,Aty,U2,Bool.cond_false_right,Bool.cond_true_left,Bool.cond_false_left,Akz,I1,Qk,Qm,Rm,Ki]
 refine congrArg (fun b=>some (b,())) ?_
 cases h1:inR role 0 1 with
 |false=>rfl
 |true=>
  have h1:=C6.1 h1
  cases has with
  |false=>simp[bne,Bool.and_assoc]
  |true=>
   rcases(show role=0∨role=1 by omega)with rfl|rfl
   ·simp[bne,Bool.and_assoc]
   ·have e2:inR til (-1) 1000005=(inR til 0 1000005 || til== -1):=by
     apply J2;simp[inR];omega
    simp[bne,Bool.and_assoc,e2]
end
end Go.Proofs.YtmhhajdeafijmaaGreat
