/-
  That the program and the reference answer alike, in plain terms, and that the laws answer true.
-/
import Derived.Test.YtfljmgnghlpapaaGreatL1
namespace Go.Proofs.YtfljmgnghlpapaaGreat
open Go.RowKit
set_option linter.unusedVariables false
set_option linter.unusedSimpArgs false
set_option maxHeartbeats 4000000
noncomputable section
theorem Oo (b c:Bool):br b (some (c,())) (some (false,()))=some (b && c,()):=by cases b<;>rfl
theorem Ax5 (b c:Bool):br b (some (true,())) (some (c,()))=some (b || c,()):=by cases b<;>rfl
theorem X1 (b c d:Bool):br b (some (c,())) (some (d,()))=some (bif b then c else d,()):=by cases b<;>rfl
def G8 (a:Da):Bool:=inR a.1 0 4294967295 && inR a.2.1 0 65535
theorem Afx (a:Da):Mc a=some (G8 a,()):=by
 unfold Mc Xi G8
 simp only[Ah,Ai,Ab,D0,Ak,Oo]
theorem X3 (a:Da):Ho a=some (G8 a,()):=by
 unfold Ho Wl G8
 simp only[Ah,Ai,Ab,Dd,Ak,Oo]
theorem S8 (a:YBs):H8 a=some ((a.1.length:Int)==12,()):=rfl
theorem Awj (a:YI):Xy a=some (a.1==0 || a.1==1,()):=by
 unfold Xy Xe
 simp only[Ah,Ab,Ax5]
theorem Ayd (n:Int):(n==0 || n==1)=inR n 0 1:=by
 apply Mk
 simp[inR]
 omega
def U8 (w:Bs) (n:Int):Bool:=
 match idx w.2.1 ((n%1024)/32)with
 |some e=>IntKind.i64.wrap ((BitVec.ofInt (IntKind.i64.bits) (Int.fdiv e.1 (2^(min ((n%32)).toNat IntKind.i64.bits))) &&& BitVec.ofInt (IntKind.i64.bits) (1:Int)).toNat:Nat)==1
 |none=>false
theorem Anu (w:Bs) (n:YI) (hl:w.2.1.length=32) (h0:0≤n.1):P4 w n=some (U8 w n.1,()):=by
 obtain⟨e,he,_⟩:=K1 (l:=w.2.1) (n:=(n.1%1024)/32) zq0 zq0
 unfold P4 Xf U8
 simp only[Am,Ai,Ab,he,Ak]
 rw[Ao h0,Ao zq0,Ao zq0]
 rfl
theorem Ajj (w:Bs) (n:YI) (hl:w.2.1.length=32) (h0:0≤n.1):On w n=some (U8 w n.1,()):=by
 obtain⟨e,he,_⟩:=K1 (l:=w.2.1) (n:=(n.1%1024)/32) zq0 zq0
 unfold On Abb U8
 simp only[Am,Ai,Ab,he,Ak]
 rw[Ao h0,Ao zq0,Ao zq0,show(n.1%1024)%32=n.1%32 by omega]
 rfl
def D5 (l:List YI):Bool:=Dk (fun _ e=> !inR e.1 0 4294967295) l
theorem Ahu (l:List YI) (n:Int) (hl:l.length≤4294967296):It (l,()) (n,())=some (D5 l && ((l.length:Int)==n),()):=by
 have h:=Fk (B:=G5) l (fun i=>(l,n,l,(l.length:Int),(i:Int),())) (fun _ e=> !inR e.1 0 4294967295) (false,()) (l,n,())
  (fun i x hi hx=>by
   unfold G5
   simp (disch:=omega) only[Ah,Ai,Ab,Db hi,A9,B7 hx,Ak,D0,w64]
   rfl)
  (by unfold G5;simp only[Ah,Ai,Ab,Dc,A1])
 unfold It Q4
 simp only[Ai,Ej,Ab]
 rw[show((0:Int))=((0:Nat):Int)from rfl,h]
 unfold D5
 cases Dk (fun _ (e:YI)=> !inR e.1 0 4294967295) l<;>rfl
def Qe (w:Bs):Bool:=Dk (fun i (_:Unit)=>U8 w (w.1+1+(i:Nat))) (List.replicate (1024-(w.1+1)).toNat ())
def P8 (w:Bs):Bool:=inR w.1 (-1) 281474976710655 && (D5 w.2.1 && ((w.2.1.length:Int)==32) && (Qe w && (w.1== -1 || U8 w w.1)))
theorem E8 {n lo hi:Int}:inR n lo hi=true↔lo≤n∧n≤hi:=by simp[inR]
theorem Aup (t:Int) (l:List YI) (hl:l.length=32) (h0: -1≤t) (h1:t≤281474976710655):As H6 (t+1,t,l,())=some (bif Qe (t,l,())then .inr (t,l,())else .inl (false,())):=by
 have h:=Ahv (B:=H6) (1024-(t+1)).toNat (fun i=>(t+1+(i:Nat),t,l,())) (fun i=>U8 (t,l,()) (t+1+(i:Nat))) (false,()) (t,l,())
  (fun i hi=>by
   unfold H6
   simp (disch:=first|exact hl|(dsimp only;omega)|omega) only[Ah,Ai,Ab,Anu,Ak,w64]
   rw[Ao zq0]
   simp only[A9]
   rw[show t+1+((i+1:Nat):Int)=t+1+(i:Int)+1 by omega])
  (by
   unfold H6
   simp only[Ah,Ab]
   rw[Fg zq1])
 rw[show t+1=t+1+((0:Nat):Int) by simp,h]
 rfl
theorem Aye (w:Bs) (hl:w.2.1.length≤4294967296):Acg w=some (P8 w,()):=by
 obtain⟨t,l,_⟩:=w
 simp only at hl
 unfold Acg Abz P8
 simp (disch:=omega) only[Ah,Ai,Ab,Ej,D0,Ak,Ahu]
 cases h1:inR t (-1) 281474976710655 with
 |false=>rfl
 |true=>
  cases h2:(D5 l && ((l.length:Int)==32))with
  |false=>rfl
  |true=>
   have h1:=E8.1 h1
   have h3:l.length=32:=by simp at h2;omega
   simp only[Bool.not_true,A1]
   rw[w64 zq0,Aup t l h3 zq0 zq0]
   cases h4:Qe (t,l,())with
   |false=>rfl
   |true=>
    simp only[Ak,cond_true,Anv,Bool.true_and]
    by_cases h5:t= -1
    ·subst h5;rfl
    ·rw[Anu _ _ h3 zq2,Ak,Ax5]
theorem Auq (t:Int) (l:List YI) (hl:l.length=32) (h0: -1≤t) (h1:t≤281474976710655):As Ev (t+1,t,l,())=some (bif Qe (t,l,())then .inr ()else .inl (false,())):=by
 have h:=Ahv (B:=Ev) (1024-(t+1)).toNat (fun i=>(t+1+(i:Nat),t,l,())) (fun i=>U8 (t,l,()) (t+1+(i:Nat))) (false,()) ()
  (fun i hi=>by
   unfold Ev
   simp (disch:=first|exact hl|(dsimp only;omega)|omega) only[Ah,Ai,Ab,Ajj,Ak,w64]
   rw[Ao zq0]
   simp only[A9]
   rw[show t+1+((i+1:Nat):Int)=t+1+(i:Int)+1 by omega])
  (by
   unfold Ev
   simp only[Ah,Ab]
   rw[Fg zq1])
 rw[show t+1=t+1+((0:Nat):Int) by simp,h]
 rfl
theorem Ast (t:Int) (l:List YI) (hl:l.length=32):As Gt (0,t,l,())=some (bif D5 l then .inr (t,l,())else .inl (false,())):=by
 have h:=Fk (B:=Gt) l (fun i=>((i:Int),t,l,())) (fun _ e=> !inR e.1 0 4294967295) (false,()) (t,l,())
  (fun i x hi hx=>by
   unfold Gt
   rw[hl]at hi
   simp (disch:=omega) only[Ah,Ai,Ab,B7 hx,Ak,Dd,w64]
   rw[Ao zq0]
   rfl)
  (by unfold Gt;simp only[Ah,Ai,Ab,hl];rfl)
 rw[show((0:Int))=((0:Nat):Int)from rfl,h]
 rfl
theorem Arh (w:Bs):S2 w=some (P8 w,()):=by
 obtain⟨t,l,_⟩:=w
 unfold S2 Ss P8
 simp only[Ah,Ai,Ab,Ej,Dd,Ak]
 by_cases h3:l.length=32
 ·rw[Fg (by simp[h3])]
  cases h1:inR t (-1) 281474976710655 with
  |false=>rfl
  |true=>
   have h1:=E8.1 h1
   simp only[Bool.not_true,A1]
   rw[Ast t l h3]
   cases h2:D5 l with
   |false=>rfl
   |true=>
    simp only[Ak,cond_true,Anv,Bool.true_and,h3]
    rw[w64 zq0,Auq t l h3 zq0 zq0]
    by_cases h5:t= -1
    ·subst h5
     rw[Fg (by simp)]
     cases Qe (-1,l,())<;>rfl
    ·rw[Gj zq1,Ajj _ _ h3 zq2,Ak]
     have h6:(t== -1)=false:=by simpa using h5
     rw[h6]
     cases U8 (t,l,()) t<;>cases Qe (t,l,())<;>rfl
 ·rw[Gj (by simpa using (by omega: ¬((l.length:Int)=32)))]
  have:((l.length:Int)==32)=false:=by simpa using (by omega: ¬((l.length:Int)=32))
  rw[this]
  simp
def Ajk (e:YEp):Bool:=inR e.1 0 4294967295 && (((e.2.1.length:Int)==32) && (inR e.2.2.1 0 281474976710656 && P8 (e.2.2.2.1,e.2.2.2.2.1,())))
theorem Aur (e:YEp) (h:e.2.2.2.2.1.length≤4294967296):Xz e=some (Ajk e,()):=by
 unfold Xz Afo Ajk
 simp (disch:=first|exact h) only[Ah,Ai,Ab,D0,Ak,Oo,Aye]
theorem Azk (e:YEp):Rl e=some (Ajk e,()):=by
 unfold Rl Afj Ajk
 simp only[Ah,Ai,Ab,Dd,Ak,Oo,Arh]
def ep0 (e:YEp):Bool:=(e.1==0) && (((e.2.1.length:Int)==0) && ((e.2.2.1==0) && ((e.2.2.2.1==0) && ((e.2.2.2.2.1.length:Int)==0))))
theorem Ak5 (e:YEp):J9 e=some (ep0 e,()):=by
 unfold J9 Ui ep0
 simp only[Ah,Ab,Oo]
theorem Aus (l:List YB):D7 l []=((l.length:Int)==0):=by
 apply Mk
 unfold D7 Kz
 cases l<;>simp
 omega
theorem Ajl (l:List YI):Rm (l,()) ([],())=some ((l.length:Int)==0,()):=by
 unfold Rm Q3
 simp only[Ah,Ai,Ab,Ej]
 cases l with
 |nil=>
  rw[Fg (by simp)]
  rw[Cr]
  rfl
 |cons x r=>
  rw[Gj zq1]
  simp;omega
theorem Ak6 (e:YEp):Mb e ((0:Int),[],(0:Int),(0:Int),[],())=some (ep0 e,()):=by
 unfold Mb Xd ep0
 simp only[Ah,Ai,Ab,U7,Aus,Ajl,Ak,Oo]
def Ahw (c:Bl):Bool:=(c.1==0) && (((c.2.1.length:Int)==0) && (ep0 (c.2.2.1,c.2.2.2.1,c.2.2.2.2.1,c.2.2.2.2.2.1,c.2.2.2.2.2.2.1,()) && (ep0 (c.2.2.2.2.2.2.2.1,c.2.2.2.2.2.2.2.2.1,c.2.2.2.2.2.2.2.2.2.1,c.2.2.2.2.2.2.2.2.2.2.1,c.2.2.2.2.2.2.2.2.2.2.2.1,()) &&
 (!c.2.2.2.2.2.2.2.2.2.2.2.2.1 && ((c.2.2.2.2.2.2.2.2.2.2.2.2.2.1==0) && ((c.2.2.2.2.2.2.2.2.2.2.2.2.2.2.1.length:Int)==0))))))
theorem Anw (c:Bl):Nc c=some (Ahw c,()):=by
 unfold Nc Nb Ahw
 simp only[Ah,Ai,Ab,Ak6,Ak,Oo]
theorem Aqk (c:Bl):Ph c=some (Ahw c,()):=by
 unfold Ph Pb Ahw
 simp only[Ah,Ai,Ab,Ak5,Ak,Oo]
abbrev Adm (c:Bl):YEp:=(c.2.2.1,c.2.2.2.1,c.2.2.2.2.1,c.2.2.2.2.2.1,c.2.2.2.2.2.2.1,())
abbrev X4 (c:Bl):YEp:=(c.2.2.2.2.2.2.2.1,c.2.2.2.2.2.2.2.2.1,c.2.2.2.2.2.2.2.2.2.1,c.2.2.2.2.2.2.2.2.2.2.1,c.2.2.2.2.2.2.2.2.2.2.2.1,())
abbrev Aut (c:Bl):Bool:=c.2.2.2.2.2.2.2.2.2.2.2.2.1
abbrev Adn (c:Bl):Int:=c.2.2.2.2.2.2.2.2.2.2.2.2.2.1
abbrev Rs (c:Bl):List YB:=c.2.2.2.2.2.2.2.2.2.2.2.2.2.2.1
def Ahx (c:Bl):Bool:=bif !Aut c then ep0 (X4 c) && (Adn c==0)else
 !!Ajk (X4 c) && (!((X4 c).1 != IntKind.i64.wrap ((Adm c).1-1)) && (inR (Adn c) 0 1000005 || ((Adn c== -1) && (c.1==1))))
def H0 (c:Bl):Bool:= !!(c.1==0 || c.1==1) && (!!((c.2.1.length:Int)==12) && (!!Ajk (Adm c) && (!!Ahx c && (((Rs c).length:Int)==0 || ((c.1==0) && ((((Rs c).length:Int)==32) && decide ((Adm c).1<4294967295)))))))
theorem Ayf (c:Bl) (h:(X4 c).2.2.2.2.1.length≤4294967296):Ach c=some (Ahx c,()):=by
 unfold Ach Ab0 Ahx
 simp (disch:=first|exact h) only[Ah,Ai,Ab,Ak6,Ak,Aur,D0,X1,Bool.cond_false_right,Bool.cond_true_left,Bool.cond_false_left]
theorem Anx (c:Bl) (h1:(Adm c).2.2.2.2.1.length≤4294967296) (h2:(X4 c).2.2.2.2.1.length≤4294967296):P5 c=some (H0 c,()):=by
 unfold P5 Xh H0
 simp (disch:=first|exact h1|exact h2) only[Ah,Ai,Ab,Awj,S8,Ak,Aur,Ayf,X1,Bool.cond_false_right,Bool.cond_true_left,Bool.cond_false_left]
theorem Awk (c:Bl):Xt c=some (H0 c,()):=by
 obtain⟨role,sn,n1,k1,q1,t1,b1,n2,k2,q2,t2,b2,has,til,next,_⟩:=c
 unfold Xt Wx H0 Ahx
 simp only[Ah,Ai,Ab,Dd,Ak,Azk,Ak5,X1,Bool.cond_false_right,Bool.cond_true_left,Bool.cond_false_left,Ayd,Adm,X4,Aut,Adn,Rs]
 refine congrArg (fun b=>some (b,())) ?_
 cases h1:inR role 0 1 with
 |false=>rfl
 |true=>
  have h1:=E8.1 h1
  cases has with
  |false=>simp[bne,Bool.and_assoc]
  |true=>
   rcases(show role=0∨role=1 by omega)with rfl|rfl
   ·simp[bne,Bool.and_assoc]
   ·have e2:inR til (-1) 1000005=(inR til 0 1000005 || til== -1):=by
     apply Mk;simp[inR];omega
    simp[bne,Bool.and_assoc,e2]
end
end Go.Proofs.YtfljmgnghlpapaaGreat
