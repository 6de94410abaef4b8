/-
  That the program and the reference answer alike, in plain terms, and that the laws answer true.
-/
import Derived.Test.YtmhhajdeafijmaaGreatL1
namespace Go.Proofs.YtmhhajdeafijmaaGreat
open Go.RowKit
set_option linter.unusedVariables false
set_option linter.unusedSimpArgs false
set_option maxHeartbeats 4000000
noncomputable section
theorem Mj (b c:Bool):br b (some (c,())) (some (false,()))=some (b && c,()):=by cases b<;>rfl
theorem Baz (b c:Bool):br b (some (true,())) (some (c,()))=some (b || c,()):=by cases b<;>rfl
theorem Mz (b c d:Bool):br b (some (c,())) (some (d,()))=some (bif b then c else d,()):=by cases b<;>rfl
def Pc (a:Hk):Bool:=inR a.1 0 4294967295 && inR a.2.1 0 65535
theorem Azb (a:Hk):Wj a=some (Pc a,()):=by
 unfold Wj Agr Pc
 simp only[Aj,Al,Af,Ch,An,Mj]
theorem Azc (a:Hk):N0 a=some (Pc a,()):=by
 unfold N0 Afi Pc
 simp only[Aj,Al,Af,Cz,An,Mj]
theorem I4 (a:YBs):Cq a=some ((a.1.length:Int)==12,()):=rfl
theorem Z3 (a:YI):Je a=some (a.1==0 || a.1==1,()):=by
 unfold Je Agw
 simp only[Aj,Af,Baz]
theorem Aey (n:Int):(n==0 || n==1)=inR n 0 1:=by
 apply Hw
 simp[inR]
 omega
def To (w:Bs) (n:Int):Bool:=
 match idx w.2.1 ((n%1024)/32)with
 |some e=>IntKind.i64.wrap ((BitVec.ofInt (IntKind.i64.bits) (Int.fdiv e.1 (2^(min ((n%32)).toNat IntKind.i64.bits))) &&& BitVec.ofInt (IntKind.i64.bits) (1:Int)).toNat:Nat)==1
 |none=>false
theorem Aqg (w:Bs) (n:YI) (hl:w.2.1.length=32) (h0:0≤n.1):Og w n=some (To w n.1,()):=by
 obtain⟨e,he,_⟩:=Qp (l:=w.2.1) (n:=(n.1%1024)/32) zq0 zq0
 unfold Og Agx To
 simp only[Aq,Al,Af,he,An]
 rw[Ap h0,Ap zq0,Ap zq0]
 rfl
theorem Auo (w:Bs) (n:YI) (hl:w.2.1.length=32) (h0:0≤n.1):Ry w n=some (To w n.1,()):=by
 obtain⟨e,he,_⟩:=Qp (l:=w.2.1) (n:=(n.1%1024)/32) zq0 zq0
 unfold Ry Aj7 To
 simp only[Aq,Al,Af,he,An]
 rw[Ap h0,Ap zq0,Ap zq0,show(n.1%1024)%32=n.1%32 by omega]
 rfl
def Du (l:List YI):Bool:=Rt (fun _ e=> !inR e.1 0 4294967295) l
theorem Ah6 (l:List YI) (n:Int) (hl:l.length≤4294967296):Kt (l,()) (n,())=some (Du l && ((l.length:Int)==n),()):=by
 have h:=Abd (B:=Il) l (fun i=>(l,n,l,(l.length:Int),(i:Int),())) (fun _ e=> !inR e.1 0 4294967295) (false,()) (l,n,())
  (fun i x hi hx=>by
   unfold Il
   simp (disch:=omega) only[Aj,Al,Af,O9 hi,Az,Di hx,An,Ch,w64]
   rfl)
  (by unfold Il;simp only[Aj,Al,Af,Pa,Aw])
 unfold Kt X1
 simp only[Al,Sj,Af]
 rw[show((0:Int))=((0:Nat):Int)from rfl,h]
 unfold Du
 cases Rt (fun _ (e:YI)=> !inR e.1 0 4294967295) l<;>rfl
def W4 (w:Bs):Bool:=Rt (fun i (_:Unit)=>To w (w.1+1+(i:Nat))) (List.replicate (1024-(w.1+1)).toNat ())
def Ic (w:Bs):Bool:=inR w.1 (-1) 281474976710655 && (Du w.2.1 && ((w.2.1.length:Int)==32) && (W4 w && (w.1== -1 || To w w.1)))
theorem Bt {n lo hi:Int}:inR n lo hi=true↔lo≤n∧n≤hi:=by simp[inR]
theorem A67 (t:Int) (l:List YI) (hl:l.length=32) (h0: -1≤t) (h1:t≤281474976710655):A1 J7 (t+1,t,l,())=some (bif W4 (t,l,())then .inr (t,l,())else .inl (false,())):=by
 have h:=Asy (B:=J7) (1024-(t+1)).toNat (fun i=>(t+1+(i:Nat),t,l,())) (fun i=>To (t,l,()) (t+1+(i:Nat))) (false,()) (t,l,())
  (fun i hi=>by
   unfold J7
   simp (disch:=first|exact hl|(dsimp only;omega)|omega) only[Aj,Al,Af,Aqg,An,w64]
   rw[Ap zq0]
   simp only[Az]
   rw[show t+1+((i+1:Nat):Int)=t+1+(i:Int)+1 by omega])
  (by
   unfold J7
   simp only[Aj,Af]
   rw[Cp zq1])
 rw[show t+1=t+1+((0:Nat):Int) by simp,h]
 rfl
theorem A3d (w:Bs) (hl:w.2.1.length≤4294967296):Aat w=some (Ic w,()):=by
 obtain⟨t,l,_⟩:=w
 simp only at hl
 unfold Aat Akq Ic
 simp (disch:=omega) only[Aj,Al,Af,Sj,Ch,An,Ah6]
 cases h1:inR t (-1) 281474976710655 with
 |false=>rfl
 |true=>
  cases h2:(Du l && ((l.length:Int)==32))with
  |false=>rfl
  |true=>
   have h1:=Bt.1 h1
   have h3:l.length=32:=by simp at h2;omega
   simp only[Bool.not_true,Aw]
   rw[w64 zq0,A67 t l h3 zq0 zq0]
   cases h4:W4 (t,l,())with
   |false=>rfl
   |true=>
    simp only[An,cond_true,Bcb,Bool.true_and]
    by_cases h5:t= -1
    ·subst h5;rfl
    ·rw[Aqg _ _ h3 zq2,An,Baz]
theorem A68 (t:Int) (l:List YI) (hl:l.length=32) (h0: -1≤t) (h1:t≤281474976710655):A1 Fy (t+1,t,l,())=some (bif W4 (t,l,())then .inr ()else .inl (false,())):=by
 have h:=Asy (B:=Fy) (1024-(t+1)).toNat (fun i=>(t+1+(i:Nat),t,l,())) (fun i=>To (t,l,()) (t+1+(i:Nat))) (false,()) ()
  (fun i hi=>by
   unfold Fy
   simp (disch:=first|exact hl|(dsimp only;omega)|omega) only[Aj,Al,Af,Auo,An,w64]
   rw[Ap zq0]
   simp only[Az]
   rw[show t+1+((i+1:Nat):Int)=t+1+(i:Int)+1 by omega])
  (by
   unfold Fy
   simp only[Aj,Af]
   rw[Cp zq1])
 rw[show t+1=t+1+((0:Nat):Int) by simp,h]
 rfl
theorem A4y (t:Int) (l:List YI) (hl:l.length=32):A1 H4 (0,t,l,())=some (bif Du l then .inr (t,l,())else .inl (false,())):=by
 have h:=Abd (B:=H4) l (fun i=>((i:Int),t,l,())) (fun _ e=> !inR e.1 0 4294967295) (false,()) (t,l,())
  (fun i x hi hx=>by
   unfold H4
   rw[hl]at hi
   simp (disch:=omega) only[Aj,Al,Af,Di hx,An,Cz,w64]
   rw[Ap zq0]
   rfl)
  (by unfold H4;simp only[Aj,Al,Af,hl];rfl)
 rw[show((0:Int))=((0:Nat):Int)from rfl,h]
 rfl
theorem A3e (w:Bs):Aar w=some (Ic w,()):=by
 obtain⟨t,l,_⟩:=w
 unfold Aar Aaq Ic
 simp only[Aj,Al,Af,Sj,Cz,An]
 by_cases h3:l.length=32
 ·rw[Cp (by simp[h3])]
  cases h1:inR t (-1) 281474976710655 with
  |false=>rfl
  |true=>
   have h1:=Bt.1 h1
   simp only[Bool.not_true,Aw]
   rw[A4y t l h3]
   cases h2:Du l with
   |false=>rfl
   |true=>
    simp only[An,cond_true,Bcb,Bool.true_and,h3]
    rw[w64 zq0,A68 t l h3 zq0 zq0]
    by_cases h5:t= -1
    ·subst h5
     rw[Cp zq3]
     cases W4 (-1,l,())<;>rfl
    ·rw[D6 zq1,Auo _ _ h3 zq2,An]
     have h6:(t== -1)=false:=by simpa using h5
     rw[h6]
     cases To (t,l,()) t<;>cases W4 (t,l,())<;>rfl
 ·rw[D6 (by simpa using (by omega: ¬((l.length:Int)=32)))]
  have:((l.length:Int)==32)=false:=by simpa using (by omega: ¬((l.length:Int)=32))
  rw[this]
  simp
def Es (e:YEp):Bool:=inR e.1 0 4294967295 && (((e.2.1.length:Int)==32) && (inR e.2.2.1 0 281474976710656 && Ic (e.2.2.2.1,e.2.2.2.2.1,())))
theorem Asz (e:YEp) (h:e.2.2.2.2.1.length≤4294967296):Qe e=some (Es e,()):=by
 unfold Qe Apv Es
 simp (disch:=first|exact h) only[Aj,Al,Af,Ch,An,Mj,A3d]
theorem Azd (e:YEp):M6 e=some (Es e,()):=by
 unfold M6 Api Es
 simp only[Aj,Al,Af,Cz,An,Mj,A3e]
def ep0 (e:YEp):Bool:=(e.1==0) && (((e.2.1.length:Int)==0) && ((e.2.2.1==0) && ((e.2.2.2.1==0) && ((e.2.2.2.2.1.length:Int)==0))))
theorem Av7 (e:YEp):Mb e=some (ep0 e,()):=by
 unfold Mb Ab1 ep0
 simp only[Aj,Af,Mj]
theorem Al5 (l:List YB):Dq l []=((l.length:Int)==0):=by
 apply Hw
 unfold Dq Kd
 cases l<;>simp
 omega
theorem Aup (l:List YI):X0 (l,()) ([],())=some ((l.length:Int)==0,()):=by
 unfold X0 Xz
 simp only[Aj,Al,Af,Sj]
 cases l with
 |nil=>
  rw[Cp zq3]
  rw[Ci]
  rfl
 |cons x r=>
  rw[D6 zq1]
  simp;omega
theorem Av8 (e:YEp):Of e ((0:Int),[],(0:Int),(0:Int),[],())=some (ep0 e,()):=by
 unfold Of Ags ep0
 simp only[Aj,Al,Af,Rs,Al5,Aup,An,Mj]
def Ah7 (c:Ai):Bool:=(c.1==0) && (((c.2.1.length:Int)==0) && (ep0 (c.2.2.1,c.2.2.2.1,c.2.2.2.2.1,c.2.2.2.2.2.1,c.2.2.2.2.2.2.1,()) && (ep0 (c.2.2.2.2.2.2.2.1,c.2.2.2.2.2.2.2.2.1,c.2.2.2.2.2.2.2.2.2.1,c.2.2.2.2.2.2.2.2.2.2.1,c.2.2.2.2.2.2.2.2.2.2.2.1,()) &&
 (!c.2.2.2.2.2.2.2.2.2.2.2.2.1 && ((c.2.2.2.2.2.2.2.2.2.2.2.2.2.1==0) && ((c.2.2.2.2.2.2.2.2.2.2.2.2.2.2.1.length:Int)==0))))))
theorem Aze (c:Ai):Lp c=some (Ah7 c,()):=by
 unfold Lp Qd Ah7
 simp only[Aj,Al,Af,Av8,An,Mj]
theorem A2e (c:Ai):Mq c=some (Ah7 c,()):=by
 unfold Mq Sy Ah7
 simp only[Aj,Al,Af,Av7,An,Mj]
abbrev Hl (c:Ai):YEp:=(c.2.2.1,c.2.2.2.1,c.2.2.2.2.1,c.2.2.2.2.2.1,c.2.2.2.2.2.2.1,())
abbrev L3 (c:Ai):YEp:=(c.2.2.2.2.2.2.2.1,c.2.2.2.2.2.2.2.2.1,c.2.2.2.2.2.2.2.2.2.1,c.2.2.2.2.2.2.2.2.2.2.1,c.2.2.2.2.2.2.2.2.2.2.2.1,())
abbrev Pd (c:Ai):Bool:=c.2.2.2.2.2.2.2.2.2.2.2.2.1
abbrev Qq (c:Ai):Int:=c.2.2.2.2.2.2.2.2.2.2.2.2.2.1
abbrev C6 (c:Ai):List YB:=c.2.2.2.2.2.2.2.2.2.2.2.2.2.2.1
def Kl (c:Ai):Bool:=bif !Pd c then ep0 (L3 c) && (Qq c==0)else
 !!Es (L3 c) && (!((L3 c).1 != IntKind.i64.wrap ((Hl c).1-1)) && (inR (Qq c) 0 1000005 || ((Qq c== -1) && (c.1==1))))
def B4 (c:Ai):Bool:= !!(c.1==0 || c.1==1) && (!!((c.2.1.length:Int)==12) && (!!Es (Hl c) && (!!Kl c && (((C6 c).length:Int)==0 || ((c.1==0) && ((((C6 c).length:Int)==32) && decide ((Hl c).1<4294967295)))))))
theorem Ba4 (c:Ai) (h:(L3 c).2.2.2.2.1.length≤4294967296):Aks c=some (Kl c,()):=by
 unfold Aks Akr Kl
 simp (disch:=first|exact h) only[Aj,Al,Af,Av8,An,Asz,Ch,Mz,Bool.cond_false_right,Bool.cond_true_left,Bool.cond_false_left]
theorem Z4 (c:Ai) (h1:(Hl c).2.2.2.2.1.length≤4294967296) (h2:(L3 c).2.2.2.2.1.length≤4294967296):Jf c=some (B4 c,()):=by
 unfold Jf Agy B4
 simp (disch:=first|exact h1|exact h2) only[Aj,Al,Af,Z3,I4,An,Asz,Ba4,Mz,Bool.cond_false_right,Bool.cond_true_left,Bool.cond_false_left]
theorem Z5 (c:Ai):Jb c=some (B4 c,()):=by
 obtain⟨role,sn,n1,k1,q1,t1,b1,n2,k2,q2,t2,b2,has,til,next,_⟩:=c
 unfold Jb Afm B4 Kl
 simp only[Aj,Al,Af,Cz,An,Azd,Av7,Mz,Bool.cond_false_right,Bool.cond_true_left,Bool.cond_false_left,Aey,Hl,L3,Pd,Qq,C6]
 refine congrArg (fun b=>some (b,())) ?_
 cases h1:inR role 0 1 with
 |false=>rfl
 |true=>
  have h1:=Bt.1 h1
  cases has with
  |false=>simp[bne,Bool.and_assoc]
  |true=>
   rcases(show role=0∨role=1 by omega)with rfl|rfl
   ·simp[bne,Bool.and_assoc]
   ·have e2:inR til (-1) 1000005=(inR til 0 1000005 || til== -1):=by
     apply Hw;simp[inR];omega
    simp[bne,Bool.and_assoc,e2]
end
end Go.Proofs.YtmhhajdeafijmaaGreat
