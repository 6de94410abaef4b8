/-
  That the program and the reference answer alike, in plain terms, and that the laws answer true.
-/
import Derived.Test.YtjlblagmjlmglaaGreatL1
namespace Go.Proofs.YtjlblagmjlmglaaGreat
open Go.RowKit
set_option linter.unusedVariables false
set_option linter.unusedSimpArgs false
set_option maxHeartbeats 4000000
noncomputable section
theorem Mo (b c:Bool):br b (some (c,())) (some (false,()))=some (b && c,()):=by cases b<;>rfl
theorem Bav (b c:Bool):br b (some (true,())) (some (c,()))=some (b || c,()):=by cases b<;>rfl
theorem M8 (b c d:Bool):br b (some (c,())) (some (d,()))=some (bif b then c else d,()):=by cases b<;>rfl
def Fz (a:Dk):Bool:=inR a.1 0 4294967295 && inR a.2.1 0 65535
theorem A9d (a:Dk):Ahc a=some (Fz a,()):=by
 unfold Ahc Agf Fz
 simp only[Ai,Aj,Ad,B6,Al,Mo]
theorem Aho (a:Dk):Ot a=some (Fz a,()):=by
 unfold Ot Afg Fz
 simp only[Ai,Aj,Ad,Bv,Al,Mo]
theorem H2 (a:YBs):Ch a=some ((a.1.length:Int)==12,()):=rfl
theorem Zy (a:YI):Jm a=some (a.1==0 || a.1==1,()):=by
 unfold Jm Agk
 simp only[Ai,Ad,Bav]
theorem Aet (n:Int):(n==0 || n==1)=inR n 0 1:=by
 apply H3
 simp[inR]
 omega
def Tm (w:Bp) (n:Int):Bool:=
 match idx w.2.1 ((n%1024)/32)with
 |some e=>IntKind.i64.wrap ((BitVec.ofInt (IntKind.i64.bits) (Int.fdiv e.1 (2^(min ((n%32)).toNat IntKind.i64.bits))) &&& BitVec.ofInt (IntKind.i64.bits) (1:Int)).toNat:Nat)==1
 |none=>false
theorem Ap0 (w:Bp) (n:YI) (hl:w.2.1.length=32) (h0:0≤n.1):O6 w n=some (Tm w n.1,()):=by
 obtain⟨e,he,_⟩:=Qo (l:=w.2.1) (n:=(n.1%1024)/32) zq0 zq0
 unfold O6 Agl Tm
 simp only[Ap,Aj,Ad,he,Al]
 rw[Ao h0,Ao zq0,Ao zq0]
 rfl
theorem At8 (w:Bp) (n:YI) (hl:w.2.1.length=32) (h0:0≤n.1):R8 w n=some (Tm w n.1,()):=by
 obtain⟨e,he,_⟩:=Qo (l:=w.2.1) (n:=(n.1%1024)/32) zq0 zq0
 unfold R8 Ajs Tm
 simp only[Ap,Aj,Ad,he,Al]
 rw[Ao h0,Ao zq0,Ao zq0,show(n.1%1024)%32=n.1%32 by omega]
 rfl
def D3 (l:List YI):Bool:=Rv (fun _ e=> !inR e.1 0 4294967295) l
theorem Ahp (l:List YI) (n:Int) (hl:l.length≤4294967296):Lb (l,()) (n,())=some (D3 l && ((l.length:Int)==n),()):=by
 have h:=Aa4 (B:=Ir) l (fun i=>(l,n,l,(l.length:Int),(i:Int),())) (fun _ e=> !inR e.1 0 4294967295) (false,()) (l,n,())
  (fun i x hi hx=>by
   unfold Ir
   simp (disch:=omega) only[Ai,Aj,Ad,Zw hi,Ax,Dz hx,Al,B6,w64]
   rfl)
  (by unfold Ir;simp only[Ai,Aj,Ad,Zx,Aq])
 unfold Lb Xr
 simp only[Aj,Zz,Ad]
 rw[show((0:Int))=((0:Nat):Int)from rfl,h]
 unfold D3
 cases Rv (fun _ (e:YI)=> !inR e.1 0 4294967295) l<;>rfl
def W3 (w:Bp):Bool:=Rv (fun i (_:Unit)=>Tm w (w.1+1+(i:Nat))) (List.replicate (1024-(w.1+1)).toNat ())
def Ih (w:Bp):Bool:=inR w.1 (-1) 281474976710655 && (D3 w.2.1 && ((w.2.1.length:Int)==32) && (W3 w && (w.1== -1 || Tm w w.1)))
theorem Bf {n lo hi:Int}:inR n lo hi=true↔lo≤n∧n≤hi:=by simp[inR]
theorem A61 (t:Int) (l:List YI) (hl:l.length=32) (h0: -1≤t) (h1:t≤281474976710655):Az Kc (t+1,t,l,())=some (bif W3 (t,l,())then .inr (t,l,())else .inl (false,())):=by
 have h:=Asm (B:=Kc) (1024-(t+1)).toNat (fun i=>(t+1+(i:Nat),t,l,())) (fun i=>Tm (t,l,()) (t+1+(i:Nat))) (false,()) (t,l,())
  (fun i hi=>by
   unfold Kc
   simp (disch:=first|exact hl|(dsimp only;omega)|omega) only[Ai,Aj,Ad,Ap0,Al,w64]
   rw[Ao zq0]
   simp only[Ax]
   rw[show t+1+((i+1:Nat):Int)=t+1+(i:Int)+1 by omega])
  (by
   unfold Kc
   simp only[Ai,Ad]
   rw[Co zq1])
 rw[show t+1=t+1+((0:Nat):Int) by simp,h]
 rfl
theorem A22 (w:Bp) (hl:w.2.1.length≤4294967296):Aaw w=some (Ih w,()):=by
 obtain⟨t,l,_⟩:=w
 simp only at hl
 unfold Aaw Akp Ih
 simp (disch:=omega) only[Ai,Aj,Ad,Zz,B6,Al,Ahp]
 cases h1:inR t (-1) 281474976710655 with
 |false=>rfl
 |true=>
  cases h2:(D3 l && ((l.length:Int)==32))with
  |false=>rfl
  |true=>
   have h1:=Bf.1 h1
   have h3:l.length=32:=by simp at h2;omega
   simp only[Bool.not_true,Aq]
   rw[w64 zq0,A61 t l h3 zq0 zq0]
   cases h4:W3 (t,l,())with
   |false=>rfl
   |true=>
    simp only[Al,cond_true,A9e,Bool.true_and]
    by_cases h5:t= -1
    ·subst h5;rfl
    ·rw[Ap0 _ _ h3 zq2,Al,Bav]
theorem A62 (t:Int) (l:List YI) (hl:l.length=32) (h0: -1≤t) (h1:t≤281474976710655):Az Fx (t+1,t,l,())=some (bif W3 (t,l,())then .inr ()else .inl (false,())):=by
 have h:=Asm (B:=Fx) (1024-(t+1)).toNat (fun i=>(t+1+(i:Nat),t,l,())) (fun i=>Tm (t,l,()) (t+1+(i:Nat))) (false,()) ()
  (fun i hi=>by
   unfold Fx
   simp (disch:=first|exact hl|(dsimp only;omega)|omega) only[Ai,Aj,Ad,At8,Al,w64]
   rw[Ao zq0]
   simp only[Ax]
   rw[show t+1+((i+1:Nat):Int)=t+1+(i:Int)+1 by omega])
  (by
   unfold Fx
   simp only[Ai,Ad]
   rw[Co zq1])
 rw[show t+1=t+1+((0:Nat):Int) by simp,h]
 rfl
theorem A4q (t:Int) (l:List YI) (hl:l.length=32):Az Ib (0,t,l,())=some (bif D3 l then .inr (t,l,())else .inl (false,())):=by
 have h:=Aa4 (B:=Ib) l (fun i=>((i:Int),t,l,())) (fun _ e=> !inR e.1 0 4294967295) (false,()) (t,l,())
  (fun i x hi hx=>by
   unfold Ib
   rw[hl]at hi
   simp (disch:=omega) only[Ai,Aj,Ad,Dz hx,Al,Bv,w64]
   rw[Ao zq0]
   rfl)
  (by unfold Ib;simp only[Ai,Aj,Ad,hl];rfl)
 rw[show((0:Int))=((0:Nat):Int)from rfl,h]
 rfl
theorem A23 (w:Bp):Aau w=some (Ih w,()):=by
 obtain⟨t,l,_⟩:=w
 unfold Aau Aal Ih
 simp only[Ai,Aj,Ad,Zz,Bv,Al]
 by_cases h3:l.length=32
 ·rw[Co (by simp[h3])]
  cases h1:inR t (-1) 281474976710655 with
  |false=>rfl
  |true=>
   have h1:=Bf.1 h1
   simp only[Bool.not_true,Aq]
   rw[A4q t l h3]
   cases h2:D3 l with
   |false=>rfl
   |true=>
    simp only[Al,cond_true,A9e,Bool.true_and,h3]
    rw[w64 zq0,A62 t l h3 zq0 zq0]
    by_cases h5:t= -1
    ·subst h5
     rw[Co zq3]
     cases W3 (-1,l,())<;>rfl
    ·rw[Ec zq1,At8 _ _ h3 zq2,Al]
     have h6:(t== -1)=false:=by simpa using h5
     rw[h6]
     cases Tm (t,l,()) t<;>cases W3 (t,l,())<;>rfl
 ·rw[Ec (by simpa using (by omega: ¬((l.length:Int)=32)))]
  have:((l.length:Int)==32)=false:=by simpa using (by omega: ¬((l.length:Int)=32))
  rw[this]
  simp
def E0 (e:YEp):Bool:=inR e.1 0 4294967295 && (((e.2.1.length:Int)==32) && (inR e.2.2.1 0 281474976710656 && Ih (e.2.2.2.1,e.2.2.2.2.1,())))
theorem Asn (e:YEp) (h:e.2.2.2.2.1.length≤4294967296):Qh e=some (E0 e,()):=by
 unfold Qh Aph E0
 simp (disch:=first|exact h) only[Ai,Aj,Ad,B6,Al,Mo,A22]
theorem Ay6 (e:YEp):Nf e=some (E0 e,()):=by
 unfold Nf Ao2 E0
 simp only[Ai,Aj,Ad,Bv,Al,Mo,A23]
def ep0 (e:YEp):Bool:=(e.1==0) && (((e.2.1.length:Int)==0) && ((e.2.2.1==0) && ((e.2.2.2.1==0) && ((e.2.2.2.2.1.length:Int)==0))))
theorem Av1 (e:YEp):Ml e=some (ep0 e,()):=by
 unfold Ml Aby ep0
 simp only[Ai,Ad,Mo]
theorem Aln (l:List YB):Dv l []=((l.length:Int)==0):=by
 apply H3
 unfold Dv Kj
 cases l<;>simp
 omega
theorem At9 (l:List YI):Zm (l,()) ([],())=some ((l.length:Int)==0,()):=by
 unfold Zm Xp
 simp only[Ai,Aj,Ad,Zz]
 cases l with
 |nil=>
  rw[Co zq3]
  rw[Cf]
  rfl
 |cons x r=>
  rw[Ec zq1]
  simp;omega
theorem Av2 (e:YEp):O5 e ((0:Int),[],(0:Int),(0:Int),[],())=some (ep0 e,()):=by
 unfold O5 Agh ep0
 simp only[Ai,Aj,Ad,Ru,Aln,At9,Al,Mo]
def Ww (c:Af):Bool:=(c.1==0) && (((c.2.1.length:Int)==0) && (ep0 (c.2.2.1,c.2.2.2.1,c.2.2.2.2.1,c.2.2.2.2.2.1,c.2.2.2.2.2.2.1,()) && (ep0 (c.2.2.2.2.2.2.2.1,c.2.2.2.2.2.2.2.2.1,c.2.2.2.2.2.2.2.2.2.1,c.2.2.2.2.2.2.2.2.2.2.1,c.2.2.2.2.2.2.2.2.2.2.2.1,()) &&
 (!c.2.2.2.2.2.2.2.2.2.2.2.2.1 && ((c.2.2.2.2.2.2.2.2.2.2.2.2.2.1==0) && ((c.2.2.2.2.2.2.2.2.2.2.2.2.2.2.1.length:Int)==0))))))
theorem Ay7 (c:Af):L5 c=some (Ww c,()):=by
 unfold L5 Qc Ww
 simp only[Ai,Aj,Ad,Av2,Al,Mo]
theorem A12 (c:Af):M0 c=some (Ww c,()):=by
 unfold M0 S1 Ww
 simp only[Ai,Aj,Ad,Av1,Al,Mo]
abbrev Ho (c:Af):YEp:=(c.2.2.1,c.2.2.2.1,c.2.2.2.2.1,c.2.2.2.2.2.1,c.2.2.2.2.2.2.1,())
abbrev L9 (c:Af):YEp:=(c.2.2.2.2.2.2.2.1,c.2.2.2.2.2.2.2.2.1,c.2.2.2.2.2.2.2.2.2.1,c.2.2.2.2.2.2.2.2.2.2.1,c.2.2.2.2.2.2.2.2.2.2.2.1,())
abbrev Pa (c:Af):Bool:=c.2.2.2.2.2.2.2.2.2.2.2.2.1
abbrev Qp (c:Af):Int:=c.2.2.2.2.2.2.2.2.2.2.2.2.2.1
abbrev Cy (c:Af):List YB:=c.2.2.2.2.2.2.2.2.2.2.2.2.2.2.1
def Kr (c:Af):Bool:=bif !Pa c then ep0 (L9 c) && (Qp c==0)else
 !!E0 (L9 c) && (!((L9 c).1 != IntKind.i64.wrap ((Ho c).1-1)) && (inR (Qp c) 0 1000005 || ((Qp c== -1) && (c.1==1))))
def Bw (c:Af):Bool:= !!(c.1==0 || c.1==1) && (!!((c.2.1.length:Int)==12) && (!!E0 (Ho c) && (!!Kr c && (((Cy c).length:Int)==0 || ((c.1==0) && ((((Cy c).length:Int)==32) && decide ((Ho c).1<4294967295)))))))
theorem Ba0 (c:Af) (h:(L9 c).2.2.2.2.1.length≤4294967296):Ale c=some (Kr c,()):=by
 unfold Ale Akr Kr
 simp (disch:=first|exact h) only[Ai,Aj,Ad,Av2,Al,Asn,B6,M8,Bool.cond_false_right,Bool.cond_true_left,Bool.cond_false_left]
theorem Z0 (c:Af) (h1:(Ho c).2.2.2.2.1.length≤4294967296) (h2:(L9 c).2.2.2.2.1.length≤4294967296):Gm c=some (Bw c,()):=by
 unfold Gm Agn Bw
 simp (disch:=first|exact h1|exact h2) only[Ai,Aj,Ad,Zy,H2,Al,Asn,Ba0,M8,Bool.cond_false_right,Bool.cond_true_left,Bool.cond_false_left]
theorem Z1 (c:Af):Jl c=some (Bw c,()):=by
 obtain⟨role,sn,n1,k1,q1,t1,b1,n2,k2,q2,t2,b2,has,til,next,_⟩:=c
 unfold Jl Afl Bw Kr
 simp only[Ai,Aj,Ad,Bv,Al,Ay6,Av1,M8,Bool.cond_false_right,Bool.cond_true_left,Bool.cond_false_left,Aet,Ho,L9,Pa,Qp,Cy]
 refine congrArg (fun b=>some (b,())) ?_
 cases h1:inR role 0 1 with
 |false=>rfl
 |true=>
  have h1:=Bf.1 h1
  cases has with
  |false=>simp[bne,Bool.and_assoc]
  |true=>
   rcases(show role=0∨role=1 by omega)with rfl|rfl
   ·simp[bne,Bool.and_assoc]
   ·have e2:inR til (-1) 1000005=(inR til 0 1000005 || til== -1):=by
     apply H3;simp[inR];omega
    simp[bne,Bool.and_assoc,e2]
end
end Go.Proofs.YtjlblagmjlmglaaGreat
