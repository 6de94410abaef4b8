/-
  That the program and the reference answer alike, in plain terms, and that the laws answer true.
-/
import Derived.Test.YtmhhajdeafijmaaGreatL1
namespace Go.Proofs.YtmhhajdeafijmaaGreat
open Go.RowKit
set_option linter.unusedVariables false
set_option linter.unusedSimpArgs false
set_option maxHeartbeats 4000000
noncomputable section
theorem M9 (b c:Bool):br b (some (c,())) (some (false,()))=some (b && c,()):=by cases b<;>rfl
theorem A99 (b c:Bool):br b (some (true,())) (some (c,()))=some (b || c,()):=by cases b<;>rfl
theorem Nt (b c d:Bool):br b (some (c,())) (some (d,()))=some (bif b then c else d,()):=by cases b<;>rfl
def Gc (a:Gv):Bool:=inR a.1 0 4294967295 && inR a.2.1 0 65535
theorem Ayx (a:Gv):Xb a=some (Gc a,()):=by
 unfold Xb Agx Gc
 simp only[Ag,Ai,Ad,Br,Aj,M9]
theorem Aqa (a:Gv):Pe a=some (Gc a,()):=by
 unfold Pe Af1 Gc
 simp only[Ag,Ai,Ad,Cb,Aj,M9]
theorem Jj (a:YBs):Cs a=some ((a.1.length:Int)==12,()):=rfl
theorem Aap (a:YI):Ju a=some (a.1==0 || a.1==1,()):=by
 unfold Ju Ag2
 simp only[Ag,Ad,A99]
theorem Afd (n:Int):(n==0 || n==1)=inR n 0 1:=by
 apply Ib
 simp[inR]
 omega
def T8 (w:Bn) (n:Int):Bool:=
 match idx w.2.1 ((n%1024)/32)with
 |some e=>IntKind.i64.wrap ((BitVec.ofInt (IntKind.i64.bits) (Int.fdiv e.1 (2^(min ((n%32)).toNat IntKind.i64.bits))) &&& BitVec.ofInt (IntKind.i64.bits) (1:Int)).toNat:Nat)==1
 |none=>false
theorem Aqb (w:Bn) (n:YI) (hl:w.2.1.length=32) (h0:0≤n.1):Po w n=some (T8 w n.1,()):=by
 obtain⟨e,he,_⟩:=Ra (l:=w.2.1) (n:=(n.1%1024)/32) zq0 zq0
 unfold Po Ag3 T8
 simp only[Ao,Ai,Ad,he,Aj]
 rw[Am h0,Am zq0,Am zq0]
 rfl
theorem At9 (w:Bn) (n:YI) (hl:w.2.1.length=32) (h0:0≤n.1):Sv w n=some (T8 w n.1,()):=by
 obtain⟨e,he,_⟩:=Ra (l:=w.2.1) (n:=(n.1%1024)/32) zq0 zq0
 unfold Sv Akc T8
 simp only[Ao,Ai,Ad,he,Aj]
 rw[Am h0,Am zq0,Am zq0,show(n.1%1024)%32=n.1%32 by omega]
 rfl
def D3 (l:List YI):Bool:=Sc (fun _ e=> !inR e.1 0 4294967295) l
theorem Ah7 (l:List YI) (n:Int) (hl:l.length≤4294967296):Lg (l,()) (n,())=some (D3 l && ((l.length:Int)==n),()):=by
 have h:=Abw (B:=I3) l (fun i=>(l,n,l,(l.length:Int),(i:Int),())) (fun _ e=> !inR e.1 0 4294967295) (false,()) (l,n,())
  (fun i x hi hx=>by
   unfold I3
   simp (disch:=omega) only[Ag,Ai,Ad,M6 hi,Aw,Dl hx,Aj,Br,w64]
   rfl)
  (by unfold I3;simp only[Ag,Ai,Ad,M7,An])
 unfold Lg Zd
 simp only[Ai,S8,Ad]
 rw[show((0:Int))=((0:Nat):Int)from rfl,h]
 unfold D3
 cases Sc (fun _ (e:YI)=> !inR e.1 0 4294967295) l<;>rfl
def Xo (w:Bn):Bool:=Sc (fun i (_:Unit)=>T8 w (w.1+1+(i:Nat))) (List.replicate (1024-(w.1+1)).toNat ())
def Fq (w:Bn):Bool:=inR w.1 (-1) 281474976710655 && (D3 w.2.1 && ((w.2.1.length:Int)==32) && (Xo w && (w.1== -1 || T8 w w.1)))
theorem A6 {n lo hi:Int}:inR n lo hi=true↔lo≤n∧n≤hi:=by simp[inR]
theorem A6i (t:Int) (l:List YI) (hl:l.length=32) (h0: -1≤t) (h1:t≤281474976710655):Ay Kj (t+1,t,l,())=some (bif Xo (t,l,())then .inr (t,l,())else .inl (false,())):=by
 have h:=Asl (B:=Kj) (1024-(t+1)).toNat (fun i=>(t+1+(i:Nat),t,l,())) (fun i=>T8 (t,l,()) (t+1+(i:Nat))) (false,()) (t,l,())
  (fun i hi=>by
   unfold Kj
   simp (disch:=first|exact hl|(dsimp only;omega)|omega) only[Ag,Ai,Ad,Aqb,Aj,w64]
   rw[Am zq0]
   simp only[Aw]
   rw[show t+1+((i+1:Nat):Int)=t+1+(i:Int)+1 by omega])
  (by
   unfold Kj
   simp only[Ag,Ad]
   rw[Cp zq1])
 rw[show t+1=t+1+((0:Nat):Int) by simp,h]
 rfl
theorem A2v (w:Bn) (hl:w.2.1.length≤4294967296):Abn w=some (Fq w,()):=by
 obtain⟨t,l,_⟩:=w
 simp only at hl
 unfold Abn Ak0 Fq
 simp (disch:=omega) only[Ag,Ai,Ad,S8,Br,Aj,Ah7]
 cases h1:inR t (-1) 281474976710655 with
 |false=>rfl
 |true=>
  cases h2:(D3 l && ((l.length:Int)==32))with
  |false=>rfl
  |true=>
   have h1:=A6.1 h1
   have h3:l.length=32:=by simp at h2;omega
   simp only[Bool.not_true,An]
   rw[w64 zq0,A6i t l h3 zq0 zq0]
   cases h4:Xo (t,l,())with
   |false=>rfl
   |true=>
    simp only[Aj,cond_true,Bbt,Bool.true_and]
    by_cases h5:t= -1
    ·subst h5;rfl
    ·rw[Aqb _ _ h3 zq2,Aj,A99]
theorem A6j (t:Int) (l:List YI) (hl:l.length=32) (h0: -1≤t) (h1:t≤281474976710655):Ay Gb (t+1,t,l,())=some (bif Xo (t,l,())then .inr ()else .inl (false,())):=by
 have h:=Asl (B:=Gb) (1024-(t+1)).toNat (fun i=>(t+1+(i:Nat),t,l,())) (fun i=>T8 (t,l,()) (t+1+(i:Nat))) (false,()) ()
  (fun i hi=>by
   unfold Gb
   simp (disch:=first|exact hl|(dsimp only;omega)|omega) only[Ag,Ai,Ad,At9,Aj,w64]
   rw[Am zq0]
   simp only[Aw]
   rw[show t+1+((i+1:Nat):Int)=t+1+(i:Int)+1 by omega])
  (by
   unfold Gb
   simp only[Ag,Ad]
   rw[Cp zq1])
 rw[show t+1=t+1+((0:Nat):Int) by simp,h]
 rfl
theorem A4a (t:Int) (l:List YI) (hl:l.length=32):Ay Im (0,t,l,())=some (bif D3 l then .inr (t,l,())else .inl (false,())):=by
 have h:=Abw (B:=Im) l (fun i=>((i:Int),t,l,())) (fun _ e=> !inR e.1 0 4294967295) (false,()) (t,l,())
  (fun i x hi hx=>by
   unfold Im
   rw[hl]at hi
   simp (disch:=omega) only[Ag,Ai,Ad,Dl hx,Aj,Cb,w64]
   rw[Am zq0]
   rfl)
  (by unfold Im;simp only[Ag,Ai,Ad,hl];rfl)
 rw[show((0:Int))=((0:Nat):Int)from rfl,h]
 rfl
theorem A2w (w:Bn):Abm w=some (Fq w,()):=by
 obtain⟨t,l,_⟩:=w
 unfold Abm Aba Fq
 simp only[Ag,Ai,Ad,S8,Cb,Aj]
 by_cases h3:l.length=32
 ·rw[Cp (by simp[h3])]
  cases h1:inR t (-1) 281474976710655 with
  |false=>rfl
  |true=>
   have h1:=A6.1 h1
   simp only[Bool.not_true,An]
   rw[A4a t l h3]
   cases h2:D3 l with
   |false=>rfl
   |true=>
    simp only[Aj,cond_true,Bbt,Bool.true_and,h3]
    rw[w64 zq0,A6j t l h3 zq0 zq0]
    by_cases h5:t= -1
    ·subst h5
     rw[Cp zq3]
     cases Xo (-1,l,())<;>rfl
    ·rw[Ej zq1,At9 _ _ h3 zq2,Aj]
     have h6:(t== -1)=false:=by simpa using h5
     rw[h6]
     cases T8 (t,l,()) t<;>cases Xo (t,l,())<;>rfl
 ·rw[Ej (by simpa using (by omega: ¬((l.length:Int)=32)))]
  have:((l.length:Int)==32)=false:=by simpa using (by omega: ¬((l.length:Int)=32))
  rw[this]
  simp
def Dm (e:YEp):Bool:=inR e.1 0 4294967295 && (((e.2.1.length:Int)==32) && (inR e.2.2.1 0 281474976710656 && Fq (e.2.2.2.1,e.2.2.2.2.1,())))
theorem Alu (e:YEp) (h:e.2.2.2.2.1.length≤4294967296):Qz e=some (Dm e,()):=by
 unfold Qz Apq Dm
 simp (disch:=first|exact h) only[Ag,Ai,Ad,Br,Aj,M9,A2v]
theorem Ayy (e:YEp):Nz e=some (Dm e,()):=by
 unfold Nz Apd Dm
 simp only[Ag,Ai,Ad,Cb,Aj,M9,A2w]
def ep0 (e:YEp):Bool:=(e.1==0) && (((e.2.1.length:Int)==0) && ((e.2.2.1==0) && ((e.2.2.2.1==0) && ((e.2.2.2.2.1.length:Int)==0))))
theorem Avt (e:YEp):Mv e=some (ep0 e,()):=by
 unfold Mv Acp ep0
 simp only[Ag,Ad,M9]
theorem Alv (l:List YB):Dt l []=((l.length:Int)==0):=by
 apply Ib
 unfold Dt Ko
 cases l<;>simp
 omega
theorem Aua (l:List YI):Aac (l,()) ([],())=some ((l.length:Int)==0,()):=by
 unfold Aac Zc
 simp only[Ag,Ai,Ad,S8]
 cases l with
 |nil=>
  rw[Cp zq3]
  rw[Ci]
  rfl
 |cons x r=>
  rw[Ej zq1]
  simp;omega
theorem Avu (e:YEp):Pn e ((0:Int),[],(0:Int),(0:Int),[],())=some (ep0 e,()):=by
 unfold Pn Agz ep0
 simp only[Ag,Ai,Ad,M8,Alv,Aua,Aj,M9]
def Ah8 (c:Af):Bool:=(c.1==0) && (((c.2.1.length:Int)==0) && (ep0 (c.2.2.1,c.2.2.2.1,c.2.2.2.2.1,c.2.2.2.2.2.1,c.2.2.2.2.2.2.1,()) && (ep0 (c.2.2.2.2.2.2.2.1,c.2.2.2.2.2.2.2.2.1,c.2.2.2.2.2.2.2.2.2.1,c.2.2.2.2.2.2.2.2.2.2.1,c.2.2.2.2.2.2.2.2.2.2.2.1,()) &&
 (!c.2.2.2.2.2.2.2.2.2.2.2.2.1 && ((c.2.2.2.2.2.2.2.2.2.2.2.2.2.1==0) && ((c.2.2.2.2.2.2.2.2.2.2.2.2.2.2.1.length:Int)==0))))))
theorem Ayz (c:Af):L8 c=some (Ah8 c,()):=by
 unfold L8 Qr Ah8
 simp only[Ag,Ai,Ad,Avu,Aj,M9]
theorem A1t (c:Af):Np c=some (Ah8 c,()):=by
 unfold Np Tn Ah8
 simp only[Ag,Ai,Ad,Avt,Aj,M9]
abbrev Gj (c:Af):YEp:=(c.2.2.1,c.2.2.2.1,c.2.2.2.2.1,c.2.2.2.2.2.1,c.2.2.2.2.2.2.1,())
abbrev Mc (c:Af):YEp:=(c.2.2.2.2.2.2.2.1,c.2.2.2.2.2.2.2.2.1,c.2.2.2.2.2.2.2.2.2.1,c.2.2.2.2.2.2.2.2.2.2.1,c.2.2.2.2.2.2.2.2.2.2.2.1,())
abbrev Na (c:Af):Bool:=c.2.2.2.2.2.2.2.2.2.2.2.2.1
abbrev Md (c:Af):Int:=c.2.2.2.2.2.2.2.2.2.2.2.2.2.1
abbrev Bl (c:Af):List YB:=c.2.2.2.2.2.2.2.2.2.2.2.2.2.2.1
def Hu (c:Af):Bool:=bif !Na c then ep0 (Mc c) && (Md c==0)else
 !!Dm (Mc c) && (!((Mc c).1 != IntKind.i64.wrap ((Gj c).1-1)) && (inR (Md c) 0 1000005 || ((Md c== -1) && (c.1==1))))
def Bd (c:Af):Bool:= !!(c.1==0 || c.1==1) && (!!((c.2.1.length:Int)==12) && (!!Dm (Gj c) && (!!Hu c && (((Bl c).length:Int)==0 || ((c.1==0) && ((((Bl c).length:Int)==32) && decide ((Gj c).1<4294967295)))))))
theorem Bag (c:Af) (h:(Mc c).2.2.2.2.1.length≤4294967296):All c=some (Hu c,()):=by
 unfold All Ak2 Hu
 simp (disch:=first|exact h) only[Ag,Ai,Ad,Avu,Aj,Alu,Br,Nt,Bool.cond_false_right,Bool.cond_true_left,Bool.cond_false_left]
theorem Lm (c:Af) (h1:(Gj c).2.2.2.2.1.length≤4294967296) (h2:(Mc c).2.2.2.2.1.length≤4294967296):F9 c=some (Bd c,()):=by
 unfold F9 Ag5 Bd
 simp (disch:=first|exact h1|exact h2) only[Ag,Ai,Ad,Aap,Jj,Aj,Alu,Bag,Nt,Bool.cond_false_right,Bool.cond_true_left,Bool.cond_false_left]
theorem Rb (c:Af):Jt c=some (Bd c,()):=by
 obtain⟨role,sn,n1,k1,q1,t1,b1,n2,k2,q2,t2,b2,has,til,next,_⟩:=c
 unfold Jt Af6 Bd Hu
 simp only[Ag,Ai,Ad,Cb,Aj,Ayy,Avt,Nt,Bool.cond_false_right,Bool.cond_true_left,Bool.cond_false_left,Afd,Gj,Mc,Na,Md,Bl]
 refine congrArg (fun b=>some (b,())) ?_
 cases h1:inR role 0 1 with
 |false=>rfl
 |true=>
  have h1:=A6.1 h1
  cases has with
  |false=>simp[bne,Bool.and_assoc]
  |true=>
   rcases(show role=0∨role=1 by omega)with rfl|rfl
   ·simp[bne,Bool.and_assoc]
   ·have e2:inR til (-1) 1000005=(inR til 0 1000005 || til== -1):=by
     apply Ib;simp[inR];omega
    simp[bne,Bool.and_assoc,e2]
end
end Go.Proofs.YtmhhajdeafijmaaGreat
