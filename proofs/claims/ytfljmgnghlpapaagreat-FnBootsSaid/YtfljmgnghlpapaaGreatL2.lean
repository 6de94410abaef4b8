/-
  That the program and the reference answer alike, in plain terms, and that the laws answer true.
-/
import Derived.Test.YtfljmgnghlpapaaGreatL1
namespace Go.Proofs.YtfljmgnghlpapaaGreat
open Go.RowKit
set_option linter.unusedVariables false
set_option linter.unusedSimpArgs false
set_option maxHeartbeats 4000000
noncomputable section
theorem L7 (b c:Bool):br b (some (c,())) (some (false,()))=some (b && c,()):=by cases b<;>rfl
theorem Bez (b c:Bool):br b (some (true,())) (some (c,()))=some (b || c,()):=by cases b<;>rfl
theorem Vt (b c d:Bool):br b (some (c,())) (some (d,()))=some (bif b then c else d,()):=by cases b<;>rfl
def D3 (a:Bi):Bool:=inR a.1 0 4294967295 && inR a.2.1 0 65535
theorem Ow (a:Bi):F9 a=some (D3 a,()):=by
 unfold F9 Agi D3
 simp only[Ac,Ae,Ab,Bw,Ai,L7]
theorem Ox (a:Bi):Fi a=some (D3 a,()):=by
 unfold Fi Afc D3
 simp only[Ac,Ae,Ab,Df,Ai,L7]
theorem L8 (a:YBs):Di a=some ((a.1.length:Int)==12,()):=rfl
theorem Bc3 (a:YI):Mz a=some (a.1==0 || a.1==1,()):=by
 unfold Mz Age
 simp only[Ac,Ab,Bez]
theorem Be4 (n:Int):(n==0 || n==1)=inR n 0 1:=by
 apply G5
 simp[inR]
 omega
def Ac9 (w:Cj) (n:Int):Bool:=
 match idx w.2.1 ((n%1024)/32)with
 |some e=>IntKind.i64.wrap ((BitVec.ofInt (IntKind.i64.bits) (Int.fdiv e.1 (2^(min ((n%32)).toNat IntKind.i64.bits))) &&& BitVec.ofInt (IntKind.i64.bits) (1:Int)).toNat:Nat)==1
 |none=>false
theorem A12 (w:Cj) (n:YI) (hl:w.2.1.length=32) (h0:0≤n.1):Vn w n=some (Ac9 w n.1,()):=by
 obtain⟨e,he,_⟩:=Ru (l:=w.2.1) (n:=(n.1%1024)/32) zq0 zq0
 unfold Vn Agf Ac9
 simp only[Al,Ae,Ab,he,Ai]
 rw[An h0,An zq0,An zq0]
 rfl
theorem Av2 (w:Cj) (n:YI) (hl:w.2.1.length=32) (h0:0≤n.1):Tr w n=some (Ac9 w n.1,()):=by
 obtain⟨e,he,_⟩:=Ru (l:=w.2.1) (n:=(n.1%1024)/32) zq0 zq0
 unfold Tr Aka Ac9
 simp only[Al,Ae,Ab,he,Ai]
 rw[An h0,An zq0,An zq0,show(n.1%1024)%32=n.1%32 by omega]
 rfl
def Ei (l:List YI):Bool:=C6 (fun _ e=> !inR e.1 0 4294967295) l
theorem Ahx (l:List YI) (n:Int) (hl:l.length≤4294967296):L0 (l,()) (n,())=some (Ei l && ((l.length:Int)==n),()):=by
 have h:=D4 (B:=Jf) l (fun i=>(l,n,l,(l.length:Int),(i:Int),())) (fun _ e=> !inR e.1 0 4294967295) (false,()) (l,n,())
  (fun i x hi hx=>by
   unfold Jf
   simp (disch:=omega) only[Ac,Ae,Ab,By hi,A4,Bk hx,Ai,Bw,w64]
   rfl)
  (by unfold Jf;simp only[Ac,Ae,Ab,Bz,Au])
 unfold L0 Wt
 simp only[Ae,Dn,Ab]
 rw[show((0:Int))=((0:Nat):Int)from rfl,h]
 unfold Ei
 cases C6 (fun _ (e:YI)=> !inR e.1 0 4294967295) l<;>rfl
def Vy (w:Cj):Bool:=C6 (fun i (_:Unit)=>Ac9 w (w.1+1+(i:Nat))) (List.replicate (1024-(w.1+1)).toNat ())
def Vu (w:Cj):Bool:=inR w.1 (-1) 281474976710655 && (Ei w.2.1 && ((w.2.1.length:Int)==32) && (Vy w && (w.1== -1 || Ac9 w w.1)))
theorem Cu {n lo hi:Int}:inR n lo hi=true↔lo≤n∧n≤hi:=by simp[inR]
theorem Bas (t:Int) (l:List YI) (hl:l.length=32) (h0: -1≤t) (h1:t≤281474976710655):As Ks (t+1,t,l,())=some (bif Vy (t,l,())then .inr (t,l,())else .inl (false,())):=by
 have h:=At2 (B:=Ks) (1024-(t+1)).toNat (fun i=>(t+1+(i:Nat),t,l,())) (fun i=>Ac9 (t,l,()) (t+1+(i:Nat))) (false,()) (t,l,())
  (fun i hi=>by
   unfold Ks
   simp (disch:=first|exact hl|(dsimp only;omega)|omega) only[Ac,Ae,Ab,A12,Ai,w64]
   rw[An zq0]
   simp only[A4]
   rw[show t+1+((i+1:Nat):Int)=t+1+(i:Int)+1 by omega])
  (by
   unfold Ks
   simp only[Ac,Ab]
   rw[Em zq1])
 rw[show t+1=t+1+((0:Nat):Int) by simp,h]
 rfl
theorem Be5 (w:Cj) (hl:w.2.1.length≤4294967296):Amh w=some (Vu w,()):=by
 obtain⟨t,l,_⟩:=w
 simp only at hl
 unfold Amh Ale Vu
 simp (disch:=omega) only[Ac,Ae,Ab,Dn,Bw,Ai,Ahx]
 cases h1:inR t (-1) 281474976710655 with
 |false=>rfl
 |true=>
  cases h2:(Ei l && ((l.length:Int)==32))with
  |false=>rfl
  |true=>
   have h1:=Cu.1 h1
   have h3:l.length=32:=by simp at h2;omega
   simp only[Bool.not_true,Au]
   rw[w64 zq0,Bas t l h3 zq0 zq0]
   cases h4:Vy (t,l,())with
   |false=>rfl
   |true=>
    simp only[Ai,cond_true,Av3,Bool.true_and]
    by_cases h5:t= -1
    ·subst h5;rfl
    ·rw[A12 _ _ h3 zq2,Ai,Bez]
theorem Bat (t:Int) (l:List YI) (hl:l.length=32) (h0: -1≤t) (h1:t≤281474976710655):As Gc (t+1,t,l,())=some (bif Vy (t,l,())then .inr ()else .inl (false,())):=by
 have h:=At2 (B:=Gc) (1024-(t+1)).toNat (fun i=>(t+1+(i:Nat),t,l,())) (fun i=>Ac9 (t,l,()) (t+1+(i:Nat))) (false,()) ()
  (fun i hi=>by
   unfold Gc
   simp (disch:=first|exact hl|(dsimp only;omega)|omega) only[Ac,Ae,Ab,Av2,Ai,w64]
   rw[An zq0]
   simp only[A4]
   rw[show t+1+((i+1:Nat):Int)=t+1+(i:Int)+1 by omega])
  (by
   unfold Gc
   simp only[Ac,Ab]
   rw[Em zq1])
 rw[show t+1=t+1+((0:Nat):Int) by simp,h]
 rfl
theorem A75 (t:Int) (l:List YI) (hl:l.length=32):As I4 (0,t,l,())=some (bif Ei l then .inr (t,l,())else .inl (false,())):=by
 have h:=D4 (B:=I4) l (fun i=>((i:Int),t,l,())) (fun _ e=> !inR e.1 0 4294967295) (false,()) (t,l,())
  (fun i x hi hx=>by
   unfold I4
   rw[hl]at hi
   simp (disch:=omega) only[Ac,Ae,Ab,Bk hx,Ai,Df,w64]
   rw[An zq0]
   rfl)
  (by unfold I4;simp only[Ac,Ae,Ab,hl];rfl)
 rw[show((0:Int))=((0:Nat):Int)from rfl,h]
 rfl
theorem A6j (w:Cj):Aad w=some (Vu w,()):=by
 obtain⟨t,l,_⟩:=w
 unfold Aad Zs Vu
 simp only[Ac,Ae,Ab,Dn,Df,Ai]
 by_cases h3:l.length=32
 ·rw[Em (by simp[h3])]
  cases h1:inR t (-1) 281474976710655 with
  |false=>rfl
  |true=>
   have h1:=Cu.1 h1
   simp only[Bool.not_true,Au]
   rw[A75 t l h3]
   cases h2:Ei l with
   |false=>rfl
   |true=>
    simp only[Ai,cond_true,Av3,Bool.true_and,h3]
    rw[w64 zq0,Bat t l h3 zq0 zq0]
    by_cases h5:t= -1
    ·subst h5
     rw[Em zq3]
     cases Vy (-1,l,())<;>rfl
    ·rw[Fu zq1,Av2 _ _ h3 zq2,Ai]
     have h6:(t== -1)=false:=by simpa using h5
     rw[h6]
     cases Ac9 (t,l,()) t<;>cases Vy (t,l,())<;>rfl
 ·rw[Fu (by simpa using (by omega: ¬((l.length:Int)=32)))]
  have:((l.length:Int)==32)=false:=by simpa using (by omega: ¬((l.length:Int)=32))
  rw[this]
  simp
def Av4 (e:YEp):Bool:=inR e.1 0 4294967295 && (((e.2.1.length:Int)==32) && (inR e.2.2.1 0 281474976710656 && Vu (e.2.2.2.1,e.2.2.2.2.1,())))
theorem Bau (e:YEp) (h:e.2.2.2.2.1.length≤4294967296):Xp e=some (Av4 e,()):=by
 unfold Xp Aqn Av4
 simp (disch:=first|exact h) only[Ac,Ae,Ab,Bw,Ai,L7,Be5]
theorem Bgn (e:YEp):Xg e=some (Av4 e,()):=by
 unfold Xg Aqg Av4
 simp only[Ac,Ae,Ab,Df,Ai,L7,A6j]
def ep0 (e:YEp):Bool:=(e.1==0) && (((e.2.1.length:Int)==0) && ((e.2.2.1==0) && ((e.2.2.2.1==0) && ((e.2.2.2.2.1.length:Int)==0))))
theorem Ax7 (e:YEp):Nu e=some (ep0 e,()):=by
 unfold Nu Abc ep0
 simp only[Ac,Ab,L7]
theorem Ax8 (l:List YB):Ds l []=((l.length:Int)==0):=by
 apply G5
 unfold Ds Ov
 cases l<;>simp
 omega
theorem Av5 (l:List YI):Xo (l,()) ([],())=some ((l.length:Int)==0,()):=by
 unfold Xo Ws
 simp only[Ac,Ae,Ab,Dn]
 cases l with
 |nil=>
  rw[Em zq3]
  rw[Db]
  rfl
 |cons x r=>
  rw[Fu zq1]
  simp;omega
theorem Ax9 (e:YEp):Qh e ((0:Int),[],(0:Int),(0:Int),[],())=some (ep0 e,()):=by
 unfold Qh Agd ep0
 simp only[Ac,Ae,Ab,N4,Ax8,Av5,Ai,L7]
def At3 (c:Bt):Bool:=(c.1==0) && (((c.2.1.length:Int)==0) && (ep0 (c.2.2.1,c.2.2.2.1,c.2.2.2.2.1,c.2.2.2.2.2.1,c.2.2.2.2.2.2.1,()) && (ep0 (c.2.2.2.2.2.2.2.1,c.2.2.2.2.2.2.2.2.1,c.2.2.2.2.2.2.2.2.2.1,c.2.2.2.2.2.2.2.2.2.2.1,c.2.2.2.2.2.2.2.2.2.2.2.1,()) &&
 (!c.2.2.2.2.2.2.2.2.2.2.2.2.1 && ((c.2.2.2.2.2.2.2.2.2.2.2.2.2.1==0) && ((c.2.2.2.2.2.2.2.2.2.2.2.2.2.2.1.length:Int)==0))))))
theorem A13 (c:Bt):Rq c=some (At3 c,()):=by
 unfold Rq Rl At3
 simp only[Ac,Ae,Ab,Ax9,Ai,L7]
theorem A5g (c:Bt):Us c=some (At3 c,()):=by
 unfold Us Ua At3
 simp only[Ac,Ae,Ab,Ax7,Ai,L7]
abbrev Anw (c:Bt):YEp:=(c.2.2.1,c.2.2.2.1,c.2.2.2.2.1,c.2.2.2.2.2.1,c.2.2.2.2.2.2.1,())
abbrev Ahy (c:Bt):YEp:=(c.2.2.2.2.2.2.2.1,c.2.2.2.2.2.2.2.2.1,c.2.2.2.2.2.2.2.2.2.1,c.2.2.2.2.2.2.2.2.2.2.1,c.2.2.2.2.2.2.2.2.2.2.2.1,())
abbrev Bav (c:Bt):Bool:=c.2.2.2.2.2.2.2.2.2.2.2.2.1
abbrev Anx (c:Bt):Int:=c.2.2.2.2.2.2.2.2.2.2.2.2.2.1
abbrev X3 (c:Bt):List YB:=c.2.2.2.2.2.2.2.2.2.2.2.2.2.2.1
def At4 (c:Bt):Bool:=bif !Bav c then ep0 (Ahy c) && (Anx c==0)else
 !!Av4 (Ahy c) && (!((Ahy c).1 != IntKind.i64.wrap ((Anw c).1-1)) && (inR (Anx c) 0 1000005 || ((Anx c== -1) && (c.1==1))))
def Km (c:Bt):Bool:= !!(c.1==0 || c.1==1) && (!!((c.2.1.length:Int)==12) && (!!Av4 (Anw c) && (!!At4 c && (((X3 c).length:Int)==0 || ((c.1==0) && ((((X3 c).length:Int)==32) && decide ((Anw c).1<4294967295)))))))
theorem Be6 (c:Bt) (h:(Ahy c).2.2.2.2.1.length≤4294967296):Ami c=some (At4 c,()):=by
 unfold Ami Alg At4
 simp (disch:=first|exact h) only[Ac,Ae,Ab,Ax9,Ai,Bau,Bw,Vt,Bool.cond_false_right,Bool.cond_true_left,Bool.cond_false_left]
theorem A14 (c:Bt) (h1:(Anw c).2.2.2.2.1.length≤4294967296) (h2:(Ahy c).2.2.2.2.1.length≤4294967296):Qi c=some (Km c,()):=by
 unfold Qi Agh Km
 simp (disch:=first|exact h1|exact h2) only[Ac,Ae,Ab,Bc3,L8,Ai,Bau,Be6,Vt,Bool.cond_false_right,Bool.cond_true_left,Bool.cond_false_left]
theorem Bc4 (c:Bt):Ag7 c=some (Km c,()):=by
 obtain⟨role,sn,n1,k1,q1,t1,b1,n2,k2,q2,t2,b2,has,til,next,_⟩:=c
 unfold Ag7 Afa Km At4
 simp only[Ac,Ae,Ab,Df,Ai,Bgn,Ax7,Vt,Bool.cond_false_right,Bool.cond_true_left,Bool.cond_false_left,Be4,Anw,Ahy,Bav,Anx,X3]
 refine congrArg (fun b=>some (b,())) ?_
 cases h1:inR role 0 1 with
 |false=>rfl
 |true=>
  have h1:=Cu.1 h1
  cases has with
  |false=>simp[bne,Bool.and_assoc]
  |true=>
   rcases(show role=0∨role=1 by omega)with rfl|rfl
   ·simp[bne,Bool.and_assoc]
   ·have e2:inR til (-1) 1000005=(inR til 0 1000005 || til== -1):=by
     apply G5;simp[inR];omega
    simp[bne,Bool.and_assoc,e2]
end
end Go.Proofs.YtfljmgnghlpapaaGreat
