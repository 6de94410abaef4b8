/-
  That the program and the reference answer alike, in plain terms, and that the laws answer true.
-/
import Derived.Test.YtnbbbaplphcebaaGreatH
namespace Go.Proofs.YtnbbbaplphcebaaGreat
open Go.RowKit
set_option linter.unusedVariables false
set_option linter.unusedSimpArgs false
set_option maxHeartbeats 4000000
noncomputable section
def inR (n lo hi:Int):Bool:=decide (lo<=n) && decide (n<=hi)
theorem Cj (n lo hi:YI):Bh n lo hi=some (inR n.1 lo.1 hi.1,()):=by
 unfold Bh Aoe inR
 simp only[Af,Aa,Bci]
 split<;>rename_i h<;>simp at h<;>simp[h]
 all_goals omega
theorem Cq (n lo hi:YI):Bt n lo hi=some (inR n.1 lo.1 hi.1,()):=by
 unfold Bt Azj inR
 simp only[Af,Aa,Bci]
 split<;>rename_i h<;>simp at h<;>simp[h]
 all_goals omega
def Dx (a b:List YB):Bool:=decide (Qr a=Qr b)
theorem Z9 (a b:YBs):Td a b=some (Dx a.1 b.1,()):=rfl
theorem I3 (a b:YBs):Cf a b=some (Dx a.1 b.1,()):=rfl
theorem A79 (n:YI): ∃r,A3i n=some r/\O5 n=some r/\Cd r=0:=by
 unfold A3i A3h O5 Adm
 simp only[Ag,Af,Aa,Cj,Cq,Ae]
 cases inR n.1 1 6
 .exact⟨_,rfl,rfl,rfl⟩
 .exact⟨_,rfl,rfl,rfl⟩
theorem Bhd (t:Ch) (h:t.2.1.length<=4294967296): ∃r,G4 t=some r/\Agh t=some r:=by
 obtain⟨cap,l,_⟩:=t
 simp only at h
 obtain⟨o1,o2,h1,h2,hq⟩:=Vr (B1:=Kb) (B2:=Wr)
  (fun i d1 d2=>∃n:Int,0<=n/\n<=i/\d1=(n,l,(l.length:Int),(i:Int),())/\d2=(n,(i:Int),cap,l,())) (fun o1 o2=>o1=o2) l.length
  (by
   rintro i d1 d2 hi ⟨n,h0,h1,rfl,rfl⟩
   have hx:=List.getElem?_eq_getElem hi
   left
   unfold Kb Wr
   simp (disch:=omega) only[Af,Ag,Aa,Dj hi,A9,Ca hx,Ae,w64]
   simp only[Bci]
   split
   .exact⟨_,_,rfl,rfl,n+1,by omega,by omega,rfl,rfl⟩
   .exact⟨_,_,rfl,rfl,n,by omega,by omega,rfl,rfl⟩)
  (by
   rintro d1 d2 ⟨n,h0,h1,rfl,rfl⟩
   unfold Kb Wr
   simp only[Af,Ag,Aa,Dk,An]
   exact⟨_,_,rfl,rfl,rfl⟩)
  (d1:=((0:Int),l,(l.length:Int),(0:Int),())) (d2:=((0:Int),(0:Int),cap,l,())) ⟨0,by omega,by omega,rfl,rfl⟩
 subst hq
 refine⟨(o1.1,()),?_,?_⟩
 .unfold G4 Aoj
  simp only[Ag,Aa,h1,Ae]
 .unfold Agh Azr
  simp only[Ag,Aa,h2,Ae]
theorem Bqj (t:Ch) (a:A7) (h:t.2.1.length<=4294967296): ∃r,Z2 t a=some r/\Bcd t a=some r:=by
 obtain⟨cap,l,_⟩:=t
 obtain⟨p,q,_⟩:=a
 simp only at h
 obtain⟨o1,o2,h1,h2,hq⟩:=Vr (B1:=W1) (B2:=Ad8)
  (fun i d1 d2=>d1=(l,(l.length:Int),(i:Int),p,q,())/\d2=((i:Int),cap,l,p,q,())) (fun o1 o2=>o1=o2) l.length
  (by
   rintro i d1 d2 hi ⟨rfl,rfl⟩
   have hx:=List.getElem?_eq_getElem hi
   unfold W1 Ad8
   simp (disch:=omega) only[Af,Ag,Aa,Dj hi,A9,Ca hx,Ae,w64]
   simp only[Bci]
   split
   .split
    .exact .inr ⟨_,_,rfl,rfl,rfl⟩
    .exact .inl ⟨_,_,rfl,rfl,rfl,rfl⟩
   .exact .inl ⟨_,_,rfl,rfl,rfl,rfl⟩)
  (by
   rintro d1 d2 ⟨rfl,rfl⟩
   unfold W1 Ad8
   simp only[Af,Ag,Aa,Dk,An]
   exact⟨_,_,rfl,rfl,rfl⟩)
  (d1:=(l,(l.length:Int),(0:Int),p,q,())) (d2:=((0:Int),cap,l,p,q,())) ⟨rfl,rfl⟩
 subst hq
 refine⟨(match o1 with| .inl a=>a.1| .inr _=>false,()),?_,?_⟩
 .unfold Z2 Az4
  simp only[Ag,Aa,h1,Ae,E0]
  cases o1<;>rfl
 .unfold Bcd Bcc
  simp only[Ag,Aa,h2,Ae,E0]
  cases o1<;>rfl
theorem Rz (b c:Bool):br b (some (c,())) (some (false,()))=some (b && c,()):=by cases b<;>rfl
theorem Bi9 (b c:Bool):br b (some (true,())) (some (c,()))=some (b || c,()):=by cases b<;>rfl
theorem Aec (b c d:Bool):br b (some (c,())) (some (d,()))=some (bif b then c else d,()):=by cases b<;>rfl
def Cn (a:A7):Bool:=inR a.1 0 4294967295 && inR a.2.1 0 65535
theorem Iq (a:A7):Gr a=some (Cn a,()):=by
 unfold Gr Aoq Cn
 simp only[Af,Ag,Aa,Cj,Ae,Rz]
theorem Ir (a:A7):Hk a=some (Cn a,()):=by
 unfold Hk Anf Cn
 simp only[Af,Ag,Aa,Cq,Ae,Rz]
theorem Hr (a:YBs):Dw a=some ((a.1.length:Int)==12,()):=rfl
theorem Aaa (a:YI):O9 a=some (a.1==0 || a.1==1,()):=by
 unfold O9 Aom
 simp only[Af,Aa,Bi9]
theorem Aem (n:Int):(n==0 || n==1)=inR n 0 1:=by
 apply Kg
 simp[inR]
 omega
def Adc (w:Db) (n:Int):Bool:=
 match idx w.2.1 ((n%1024)/32)with
 |some e=>IntKind.i64.wrap ((BitVec.ofInt (IntKind.i64.bits) (Int.fdiv e.1 (2^(min ((n%32)).toNat IntKind.i64.bits))) &&& BitVec.ofInt (IntKind.i64.bits) (1:Int)).toNat:Nat)==1
 |none=>false
theorem A0t (w:Db) (n:YI) (hl:w.2.1.length=32) (h0:0<=n.1):Xj w n=some (Adc w n.1,()):=by
 obtain⟨e,he,_⟩:=Vs (l:=w.2.1) (n:=(n.1%1024)/32) zq0 zq0
 unfold Xj Aoo Adc
 simp only[Aj,Ag,Aa,he,Ae]
 rw[Al h0,Al zq0,Al zq0]
 rfl
theorem A55 (w:Db) (n:YI) (hl:w.2.1.length=32) (h0:0<=n.1):Ab7 w n=some (Adc w n.1,()):=by
 obtain⟨e,he,_⟩:=Vs (l:=w.2.1) (n:=(n.1%1024)/32) zq0 zq0
 unfold Ab7 Asx Adc
 simp only[Aj,Ag,Aa,he,Ae]
 rw[Al h0,Al zq0,Al zq0,show(n.1%1024)%32=n.1%32 by omega]
 rfl
def Gk (l:List YI):Bool:=D3 (fun _ e=> !inR e.1 0 4294967295) l
theorem Aqb (l:List YI) (n:Int) (hl:l.length<=4294967296):Rs (l,()) (n,())=some (Gk l && ((l.length:Int)==n),()):=by
 have h:=Fk (B:=Nu) l (fun i=>(l,n,l,(l.length:Int),(i:Int),())) (fun _ e=> !inR e.1 0 4294967295) (false,()) (l,n,())
  (fun i x hi hx=>by
   unfold Nu
   simp (disch:=omega) only[Af,Ag,Aa,Dj hi,A9,Ca hx,Ae,Cj,w64]
   rfl)
  (by unfold Nu;simp only[Af,Ag,Aa,Dk,An])
 unfold Rs Afl
 simp only[Ag,E0,Aa]
 rw[show((0:Int))=((0:Nat):Int)from rfl,h]
 unfold Gk
 cases D3 (fun _ (e:YI)=> !inR e.1 0 4294967295) l<;>rfl
def Aen (w:Db):Bool:=D3 (fun i (_:Unit)=>Adc w (w.1+1+(i:Nat))) (List.replicate (1024-(w.1+1)).toNat ())
def Ih (w:Db):Bool:=inR w.1 (-1) 281474976710655 && (Gk w.2.1 && ((w.2.1.length:Int)==32) && (Aen w && (w.1== -1 || Adc w w.1)))
theorem Bj {n lo hi:Int}:inR n lo hi=true↔lo<=n/\n<=hi:=by simp[inR]
theorem Blw (t:Int) (l:List YI) (hl:l.length=32) (h0: -1<=t) (h1:t<=281474976710655):Ax Qg (t+1,t,l,())=some (bif Aen (t,l,())then .inr (t,l,())else .inl (false,())):=by
 have h:=A3q (B:=Qg) (1024-(t+1)).toNat (fun i=>(t+1+(i:Nat),t,l,())) (fun i=>Adc (t,l,()) (t+1+(i:Nat))) (false,()) (t,l,())
  (fun i hi=>by
   unfold Qg
   simp (disch:=first|exact hl|(dsimp only;omega)|omega) only[Af,Ag,Aa,A0t,Ae,w64]
   rw[Al zq0]
   simp only[A9]
   rw[show t+1+((i+1:Nat):Int)=t+1+(i:Int)+1 by omega])
  (by
   unfold Qg
   simp only[Af,Aa]
   rw[C6 zq1])
 rw[show t+1=t+1+((0:Nat):Int) by simp,h]
 rfl
theorem Bhe (w:Db) (hl:w.2.1.length<=4294967296):Aic w=some (Ih w,()):=by
 obtain⟨t,l,_⟩:=w
 simp only at hl
 unfold Aic Atw Ih
 simp (disch:=omega) only[Af,Ag,Aa,E0,Cj,Ae,Aqb]
 cases h1:inR t (-1) 281474976710655 with
 |false=>rfl
 |true=>
  cases h2:(Gk l && ((l.length:Int)==32))with
  |false=>rfl
  |true=>
   have h1:=Bj.1 h1
   have h3:l.length=32:=by simp at h2;omega
   simp only[Bool.not_true,An]
   rw[w64 zq0,Blw t l h3 zq0 zq0]
   cases h4:Aen (t,l,())with
   |false=>rfl
   |true=>
    simp only[Ae,cond_true,A0u,Bool.true_and]
    by_cases h5:t= -1
    .subst h5;rfl
    .rw[A0t _ _ h3 zq2,Ae,Bi9]
theorem Blx (t:Int) (l:List YI) (hl:l.length=32) (h0: -1<=t) (h1:t<=281474976710655):Ax I7 (t+1,t,l,())=some (bif Aen (t,l,())then .inr ()else .inl (false,())):=by
 have h:=A3q (B:=I7) (1024-(t+1)).toNat (fun i=>(t+1+(i:Nat),t,l,())) (fun i=>Adc (t,l,()) (t+1+(i:Nat))) (false,()) ()
  (fun i hi=>by
   unfold I7
   simp (disch:=first|exact hl|(dsimp only;omega)|omega) only[Af,Ag,Aa,A55,Ae,w64]
   rw[Al zq0]
   simp only[A9]
   rw[show t+1+((i+1:Nat):Int)=t+1+(i:Int)+1 by omega])
  (by
   unfold I7
   simp only[Af,Aa]
   rw[C6 zq1])
 rw[show t+1=t+1+((0:Nat):Int) by simp,h]
 rfl
theorem Bja (t:Int) (l:List YI) (hl:l.length=32):Ax M7 (0,t,l,())=some (bif Gk l then .inr (t,l,())else .inl (false,())):=by
 have h:=Fk (B:=M7) l (fun i=>((i:Int),t,l,())) (fun _ e=> !inR e.1 0 4294967295) (false,()) (t,l,())
  (fun i x hi hx=>by
   unfold M7
   rw[hl]at hi
   simp (disch:=omega) only[Af,Ag,Aa,Ca hx,Ae,Cq,w64]
   rw[Al zq0]
   rfl)
  (by unfold M7;simp only[Af,Ag,Aa,hl];rfl)
 rw[show((0:Int))=((0:Nat):Int)from rfl,h]
 rfl
theorem Bhf (w:Db):Ah9 w=some (Ih w,()):=by
 obtain⟨t,l,_⟩:=w
 unfold Ah9 Aho Ih
 simp only[Af,Ag,Aa,E0,Cq,Ae]
 by_cases h3:l.length=32
 .rw[C6 (by simp[h3])]
  cases h1:inR t (-1) 281474976710655 with
  |false=>rfl
  |true=>
   have h1:=Bj.1 h1
   simp only[Bool.not_true,An]
   rw[Bja t l h3]
   cases h2:Gk l with
   |false=>rfl
   |true=>
    simp only[Ae,cond_true,A0u,Bool.true_and,h3]
    rw[w64 zq0,Blx t l h3 zq0 zq0]
    by_cases h5:t= -1
    .subst h5
     rw[C6 zq3]
     cases Aen (-1,l,())<;>rfl
    .rw[Ei zq1,A55 _ _ h3 zq2,Ae]
     have h6:(t== -1)=false:=by simpa using h5
     rw[h6]
     cases Adc (t,l,()) t<;>cases Aen (t,l,())<;>rfl
 .rw[Ei (by simpa using (by omega: ¬((l.length:Int)=32)))]
  have:((l.length:Int)==32)=false:=by simpa using (by omega: ¬((l.length:Int)=32))
  rw[this]
  simp
def Fs (e:YEp):Bool:=inR e.1 0 4294967295 && (((e.2.1.length:Int)==32) && (inR e.2.2.1 0 281474976710656 && Ih (e.2.2.2.1,e.2.2.2.2.1,())))
theorem A3r (e:YEp) (h:e.2.2.2.2.1.length<=4294967296):Z1 e=some (Fs e,()):=by
 unfold Z1 Azy Fs
 simp (disch:=first|exact h) only[Af,Ag,Aa,Cj,Ae,Rz,Bhe]
theorem Bcj (e:YEp):Vo e=some (Fs e,()):=by
 unfold Vo Azs Fs
 simp only[Af,Ag,Aa,Cq,Ae,Rz,Bhf]
def ep0 (e:YEp):Bool:=(e.1==0) && (((e.2.1.length:Int)==0) && ((e.2.2.1==0) && ((e.2.2.2.1==0) && ((e.2.2.2.2.1.length:Int)==0))))
theorem A8a (e:YEp):Um e=some (ep0 e,()):=by
 unfold Um Ajb ep0
 simp only[Af,Aa,Rz]
theorem A8b (l:List YB):Dx l []=((l.length:Int)==0):=by
 apply Kg
 unfold Dx Qr
 cases l<;>simp
 omega
theorem A56 (l:List YI):Agp (l,()) ([],())=some ((l.length:Int)==0,()):=by
 unfold Agp Afk
 simp only[Af,Ag,Aa,E0]
 cases l with
 |nil=>
  rw[C6 zq3]
  rw[Ed]
  rfl
 |cons x r=>
  rw[Ei zq1]
  simp;omega
theorem A8c (e:YEp):Xi e ((0:Int),[],(0:Int),(0:Int),[],())=some (ep0 e,()):=by
 unfold Xi Aol ep0
 simp only[Af,Ag,Aa,I3,A8b,A56,Ae,Rz]
def A3s (c:Ap):Bool:=(c.1==0) && (((c.2.1.length:Int)==0) && (ep0 (c.2.2.1,c.2.2.2.1,c.2.2.2.2.1,c.2.2.2.2.2.1,c.2.2.2.2.2.2.1,()) && (ep0 (c.2.2.2.2.2.2.2.1,c.2.2.2.2.2.2.2.2.1,c.2.2.2.2.2.2.2.2.2.1,c.2.2.2.2.2.2.2.2.2.2.1,c.2.2.2.2.2.2.2.2.2.2.2.1,()) &&
 (!c.2.2.2.2.2.2.2.2.2.2.2.2.1 && ((c.2.2.2.2.2.2.2.2.2.2.2.2.2.1==0) && ((c.2.2.2.2.2.2.2.2.2.2.2.2.2.2.1.length:Int)==0))))))
theorem Bck (c:Ap):Z0 c=some (A3s c,()):=by
 unfold Z0 Zt A3s
 simp only[Af,Ag,Aa,A8c,Ae,Rz]
theorem Bf1 (c:Ap):Ac8 c=some (A3s c,()):=by
 unfold Ac8 Aco A3s
 simp only[Af,Ag,Aa,A8a,Ae,Rz]
abbrev Lq (c:Ap):YEp:=(c.2.2.1,c.2.2.2.1,c.2.2.2.2.1,c.2.2.2.2.2.1,c.2.2.2.2.2.2.1,())
abbrev Vh (c:Ap):YEp:=(c.2.2.2.2.2.2.2.1,c.2.2.2.2.2.2.2.2.1,c.2.2.2.2.2.2.2.2.2.1,c.2.2.2.2.2.2.2.2.2.2.1,c.2.2.2.2.2.2.2.2.2.2.2.1,())
abbrev Xr (c:Ap):Bool:=c.2.2.2.2.2.2.2.2.2.2.2.2.1
abbrev Aab (c:Ap):Int:=c.2.2.2.2.2.2.2.2.2.2.2.2.2.1
abbrev J4 (c:Ap):List YB:=c.2.2.2.2.2.2.2.2.2.2.2.2.2.2.1
def Lr (c:Ap):Bool:=bif !Xr c then ep0 (Vh c) && (Aab c==0)else
 !!Fs (Vh c) && (!((Vh c).1 != IntKind.i64.wrap ((Lq c).1-1)) && (inR (Aab c) 0 1000005 || ((Aab c== -1) && (c.1==1))))
def Ci (c:Ap):Bool:= !!(c.1==0 || c.1==1) && (!!((c.2.1.length:Int)==12) && (!!Fs (Lq c) && (!!Lr c && (((J4 c).length:Int)==0 || ((c.1==0) && ((((J4 c).length:Int)==32) && decide ((Lq c).1<4294967295)))))))
theorem Bqk (c:Ap) (h:(Vh c).2.2.2.2.1.length<=4294967296):Auv c=some (Lr c,()):=by
 unfold Auv Atx Lr
 simp (disch:=first|exact h) only[Af,Ag,Aa,A8c,Ae,A3r,Cj,Aec,Bool.cond_false_right,Bool.cond_true_left,Bool.cond_false_left]
theorem Vt (c:Ap) (h1:(Lq c).2.2.2.2.1.length<=4294967296) (h2:(Vh c).2.2.2.2.1.length<=4294967296):Kf c=some (Ci c,()):=by
 unfold Kf Aop Ci
 simp (disch:=first|exact h1|exact h2) only[Af,Ag,Aa,Aaa,Hr,Ae,A3r,Bqk,Aec,Bool.cond_false_right,Bool.cond_true_left,Bool.cond_false_left]
theorem R0 (c:Ap):Ke c=some (Ci c,()):=by
 obtain⟨role,sn,n1,k1,q1,t1,b1,n2,k2,q2,t2,b2,has,til,next,_⟩:=c
 unfold Ke Anc Ci Lr
 simp only[Af,Ag,Aa,Cq,Ae,Bcj,A8a,Aec,Bool.cond_false_right,Bool.cond_true_left,Bool.cond_false_left,Aem,Lq,Vh,Xr,Aab,J4]
 refine congrArg (fun b=>some (b,())) ?_
 cases h1:inR role 0 1 with
 |false=>rfl
 |true=>
  have h1:=Bj.1 h1
  cases has with
  |false=>simp[bne,Bool.and_assoc]
  |true=>
   rcases(show role=0\/role=1 by omega)with rfl|rfl
   .simp[bne,Bool.and_assoc]
   .have e2:inR til (-1) 1000005=(inR til 0 1000005 || til== -1):=by
     apply Kg;simp[inR];omega
    simp[bne,Bool.and_assoc,e2]
def eqA (a b c d:Int):Bool:=and (a==c) (and (b==d) true)
def Tk (at1 at2:Int) (l:List A8) (i:Nat) (x:A8):Bool:=
 !(Cn (x.1,x.2.1,()) && (!eqA x.1 x.2.1 at1 at2 && (((x.2.2.1.length:Int)==12) && (inR x.2.2.2.1 0 1000006 && D3 (fun _ y=>eqA y.1 y.2.1 x.1 x.2.1) (l.take i)))))
def D4 (p:Bm):Bool:=Cn (p.1,p.2.1,()) && (!decide ((p.2.2.1.length:Int)>3) && D3 (Tk p.1 p.2.1 p.2.2.1) p.2.2.1)
theorem Bly (l0:List A8) (n:Int) (i:Nat) (m:List A8) (hm:m.length<=4294967296) (a b:Int) (l:List A8) (x:A8):
  Ax Jz (l0,n,(i:Int),m,(m.length:Int),(0:Int),a,b,l,x.1,x.2.1,x.2.2.1,x.2.2.2.1,())=some (bif D3 (fun _ y=>eqA y.1 y.2.1 x.1 x.2.1) m then .inr (l0,n,(i:Int),a,b,l,())else .inl (false,())):=by
 have h:=Fk (B:=Jz) m (fun j=>(l0,n,(i:Int),m,(m.length:Int),(j:Int),a,b,l,x.1,x.2.1,x.2.2.1,x.2.2.2.1,())) (fun _ y=>eqA y.1 y.2.1 x.1 x.2.1) (false,()) (l0,n,(i:Int),a,b,l,())
  (fun j y hj hy=>by
   unfold Jz
   simp (disch:=omega) only[Af,Ag,Aa,Dj hj,A9,Ca hy,Ae,w64]
   rfl)
  (by unfold Jz;simp only[Af,Aa,Dk,An])
 rw[show((0:Int))=((0:Nat):Int)from rfl,h]
theorem Blz (i:Nat) (a b:Int) (l:List A8) (hi:i<=l.length) (hl:l.length<=4294967296) (x:A8):
  Ax Im ((i:Int),(0:Int),a,b,l,x.1,x.2.1,x.2.2.1,x.2.2.2.1,())=some (bif D3 (fun _ y=>eqA y.1 y.2.1 x.1 x.2.1) (l.take i)then .inr ((i:Int),a,b,l,())else .inl (false,())):=by
 have hlen:(l.take i).length=i:=by simp;omega
 have h:=Fk (B:=Im) (l.take i) (fun j=>((i:Int),(j:Int),a,b,l,x.1,x.2.1,x.2.2.1,x.2.2.2.1,())) (fun _ y=>eqA y.1 y.2.1 x.1 x.2.1) (false,()) ((i:Int),a,b,l,())
  (fun j y hj hy=>by
   have hy2:l[j]? =some y:=by rw[List.getElem?_take]at hy;split at hy;exact hy;cases hy
   unfold Im
   simp (disch:=omega) only[Af,Ag,Aa,Dj (show j<i by omega),A9,Ca hy2,Ae,w64]
   rfl)
  (by unfold Im;rw[hlen];simp only[Af,Aa,Dk,An])
 rw[show((0:Int))=((0:Nat):Int)from rfl,h]
theorem V8 (p:Bm) (hl:p.2.2.1.length<=4294967296):Us p=some (D4 p,()):=by
 obtain⟨a,b,l,_⟩:=p
 simp only at hl
 have h:=Fk (B:=L9) l (fun i=>(l,(l.length:Int),(i:Int),a,b,l,())) (Tk a b l) (false,()) ()
  (fun i x hi hx=>by
   have hlen:(l.take i).length<=4294967296:=by simp;omega
   unfold L9
   simp only[Af,Ag,Aa,Aj,E0,Dj hi,A9,Ca hx,Ae,Iq,Hr,Cj,Int.toNat_natCast,Int.toNat_zero,List.drop_zero]
   rw[Bly l _ i _ hlen]
   unfold Tk
   rw[Al zq0,Al zq0]
   simp only[Ba,eqA,Ae]
   cases Cn (x.1,x.2.1,())<;>cases (and (x.1==a) (and (x.2.1==b) true))<;>cases ((x.2.2.1.length:Int)==12)<;>cases inR x.2.2.2.1 0 1000006<;>cases D3 (fun _ (y:A8)=>and (y.1==x.1) (and (y.2.1==x.2.1) true)) (l.take i)<;>first|rfl|(simp only[cond_true,A0u,br,Bool.not_true];rw[w64 zq0];rfl))
  (by unfold L9;simp only[Af,Aa,Dk,An])
 unfold Us Abd D4
 simp only[Af,Ag,Aa,E0,Iq,Ae]
 rw[show((0:Int))=((0:Nat):Int)from rfl,h]
 cases Cn (a,b,())<;>cases decide ((l.length:Int)>3)<;>cases D3 (Tk a b l) l<;>rfl
theorem Aim (p:Bm) (hl:p.2.2.1.length<=4294967296):Qj p=some (D4 p,()):=by
 obtain⟨a,b,l,_⟩:=p
 simp only at hl
 have h:=Fk (B:=Lz) l (fun i=>((i:Int),a,b,l,())) (Tk a b l) (false,()) ()
  (fun i x hi hx=>by
   unfold Lz
   simp only[Af,Ag,Aa,Aj,E0,Dj hi,A9,Ca hx,Ae,Ir,Cq]
   rw[Blz i a b l zq0 hl]
   unfold Tk
   simp only[Ae,eqA,bne]
   cases Cn (x.1,x.2.1,())<;>cases (and (x.1==a) (and (x.2.1==b) true))<;>cases ((x.2.2.1.length:Int)==12)<;>cases inR x.2.2.2.1 0 1000006<;>cases D3 (fun _ (y:A8)=>and (y.1==x.1) (and (y.2.1==x.2.1) true)) (l.take i)<;>first|rfl|(simp only[cond_true,A0u,br,Bool.not_true];rw[w64 zq0];rfl))
  (by unfold Lz;simp only[Af,Aa,Dk,An])
 unfold Qj Aa1 D4
 simp only[Af,Ag,Aa,E0,Ir,Ae]
 rw[show((0:Int))=((0:Nat):Int)from rfl,h]
 cases Cn (a,b,())<;>cases decide ((l.length:Int)>3)<;>cases D3 (Tk a b l) l<;>rfl
abbrev Cm (s:Ak):Ap:=(s.2.2.2.1,s.2.2.2.2.1,s.2.2.2.2.2.1,s.2.2.2.2.2.2.1,s.2.2.2.2.2.2.2.1,s.2.2.2.2.2.2.2.2.1,s.2.2.2.2.2.2.2.2.2.1,s.2.2.2.2.2.2.2.2.2.2.1,s.2.2.2.2.2.2.2.2.2.2.2.1,s.2.2.2.2.2.2.2.2.2.2.2.2.1,s.2.2.2.2.2.2.2.2.2.2.2.2.2.1,s.2.2.2.2.2.2.2.2.2.2.2.2.2.2.1,s.2.2.2.2.2.2.2.2.2.2.2.2.2.2.2.1,s.2.2.2.2.2.2.2.2.2.2.2.2.2.2.2.2.1,s.2.2.2.2.2.2.2.2.2.2.2.2.2.2.2.2.2.1,())
abbrev Bn (s:Ak):Bm:=(s.2.2.2.2.2.2.2.2.2.2.2.2.2.2.2.2.2.2.1,s.2.2.2.2.2.2.2.2.2.2.2.2.2.2.2.2.2.2.2.1,s.2.2.2.2.2.2.2.2.2.2.2.2.2.2.2.2.2.2.2.2.1,())
abbrev Au5 (s:Ak):Int:=s.2.2.2.2.2.2.2.2.2.2.2.2.2.2.2.2.2.2.2.2.2.1
abbrev Xs (s:Ak):Int:=s.2.2.2.2.2.2.2.2.2.2.2.2.2.2.2.2.2.2.2.2.2.2.1
abbrev C5 (s:Ak):Bool:=s.2.2.2.2.2.2.2.2.2.2.2.2.2.2.2.2.2.2.2.2.2.2.2.1
def Cs (s:Ak):Bool:=
 inR s.1 1 9 && (((s.2.1.length:Int)==12) && (((s.2.2.1.length:Int)==12) && (inR (Au5 s) 0 1000000 &&
  (bif C5 s then A3s (Cm s) && (eqA (Bn s).1 (Bn s).2.1 0 0 && ((((Bn s).2.2.1.length:Int)==0) && (Xs s==0)))
  else Ci (Cm s) && ((s.2.2.2.1==1) && (Dx s.2.2.2.2.1 s.2.2.1 && (D4 (Bn s) && inR (Xs s) 0 1000000)))))))
theorem R7 (s:Ak) (h:A0 s<=4294967296):Pa s=some (Cs s,()):=by
 have hn:A0 s=_:=rfl
 unfold Pa Aor Cs
 simp only[A0]at h
 rw[Vt _ zq2 zq2,V8 _ zq2]
 simp only[Af,Ag,Aa,Cj,Hr,Bck,I3,Ae,Aec,Bool.cond_false_right,Bool.cond_true_left,Bool.cond_false_left,eqA,Bool.not_not]
theorem Bql:H4 ((-1:Int),())=some ((0:Int),(0:Int),()):=by
 unfold H4 Ae0
 simp only[Af,Ag,Aa,Cq,Ae]
 rfl
theorem Aac (s:Ak) (h:A0 s<=4294967296):O6 s=some (Cs s,()):=by
 unfold O6 Ang Cs
 simp only[A0]at h
 rw[Aim _ zq2]
 simp only[Af,Ag,Aa,Cq,Bf1,Z9,R0,Bql,Ae,Aec,Bool.cond_false_right,Bool.cond_true_left,Bool.cond_false_left,eqA,Bool.not_not]
 refine congrArg (fun b=>some (b,())) ?_
 cases hd:C5 s with
 |true=>
  cases hl:Xs s==0 with
  |false=>simp[hd,hl,bne]
  |true=>
   have e:inR (Xs s) 0 1000000=true:=by simp at hl;simp[inR,hl]
   simp[hd,hl,bne,e]
 |false=>
  cases hl:inR (Xs s) 0 1000000 with
  |false=>simp[hd,hl,bne]
  |true=>simp[hd,hl,bne]
def Lv {E:Type} (q:E->Bool) (l:List E):Int:=(H8 (fun _ x=>q x) l 0).elim (-1) fun i=>(i:Int)
theorem Aeo {E:Type} {q:E->Bool} {l:List E} {i:Nat} {x:E} (hx:l[i]? =some x) (hq:q x=true):0<=Lv q l/\Lv q l<=i:=by
 unfold Lv
 cases h:H8 (fun _ x=>q x) l 0 with
 |none=>
  have:=Acb.1 h i x hx
  rw[hq]at this;cases this
 |some k=>
  obtain⟨j,y,rfl,h2,h3,h4⟩:=R8 h
  simp only[Option.elim,Nat.zero_add]
  rcases Nat.lt_or_ge i j with hh|hh
  .have:=h4 i x hh hx
   try simp only at this
   rw[hq]at this;cases this
  .omega
theorem Awl {E:Type} {q:E->Bool} {l:List E} {i:Nat} {x:E} (hx:l[i]? =some x) (hq:q x=true):decide (Lv q l<i)= !D3 (fun _ y=>q y) (l.take i):=by
 apply Kg
 have hb:=Aeo hx hq
 rw[Bool.not_eq_true',decide_eq_true_iff]
 constructor
 .intro hlt
  cases hn:D3 (fun _ y=>q y) (l.take i)with
  |false=>rfl
  |true=>
   rw[G7]at hn
   unfold Lv at hlt hb
   cases h:H8 (fun _ x=>q x) l 0 with
   |none=>rw[h]at hb;simp at hb
   |some k=>
    rw[h]at hlt
    simp only[Option.elim]at hlt
    obtain⟨j,y,rfl,h2,h3,h4⟩:=R8 h
    have:=hn j y (by rw[List.getElem?_take,if_pos zq0];exact h2)
    try simp only at h3
    rw[this]at h3;cases h3
 .intro hn
  rcases Int.lt_or_le (Lv q l) i with h|h
  .exact h
  .exfalso
   have hall:D3 (fun _ y=>q y) (l.take i)=true:=by
    rw[G7]
    intro j y hj
    rw[List.getElem?_take]at hj
    split at hj
    .rename_i hlt
     cases hq2:q y with
     |false=>rfl
     |true=>have:=Aeo hj hq2;omega
    .cases hj
   rw[hall]at hn;cases hn
theorem Awm {E:Type} {q:E->Bool} {l:List E}: -1<=Lv q l/\Lv q l<l.length:=by
 unfold Lv
 cases h:H8 (fun _ x=>q x) l 0 with
 |none=>simp[Option.elim];omega
 |some k=>
  obtain⟨j,y,rfl,h2,_⟩:=R8 h
  have:=(List.getElem?_eq_some_iff.1 h2).1
  simp[Option.elim];omega
theorem Au6 {E:Type} (q:E->Bool) (l:List E):(sm ((H8 (fun _ x=>q x) l 0).elim (Sum.inr ()) fun i=>Sum.inl ((i:Int),())) (fun c:Int×Unit=>some (c.1,())) fun _:Unit=>some ((-1:Int),()))=some (Lv q l,()):=by
 unfold Lv
 cases H8 (fun _ x=>q x) l 0<;>rfl
def Fl (l:List Ak) (s:List YB):Int:=Lv (fun x=>Dx x.2.2.1 s) l
theorem Aad (t:Ch) (a:YBs) (h:t.2.1.length<=4294967296):Mn t a=some (Fl t.2.1 a.1,()):=by
 obtain⟨cap,l,_⟩:=t
 obtain⟨s,_⟩:=a
 simp only at h
 have hl:=Om (B:=Rf) l (fun i=>(s,l,(l.length:Int),(i:Int),())) (fun _ x=>Dx x.2.2.1 s) (fun i=>((i:Int),())) ()
  (fun i x hi hx=>by
   unfold Rf
   simp (disch:=omega) only[Af,Ag,Aa,Dj hi,A9,Ca hx,Ae,w64,I3]
   rfl)
  (by unfold Rf;simp only[Af,Aa,Dk,An])
 unfold Mn Aos
 simp only[Ag,Aa,E0]
 rw[show((0:Int))=((0:Nat):Int)from rfl,hl]
 exact Au6 _ _
theorem Bcl (t:Ch) (a:YBs) (h:t.2.1.length<=4294967296):Adx t a=some (Fl t.2.1 a.1,()):=by
 obtain⟨cap,l,_⟩:=t
 obtain⟨s,_⟩:=a
 simp only at h
 have hl:=Om (B:=Rb) l (fun i=>(s,(i:Int),cap,l,())) (fun _ x=>Dx x.2.2.1 s) (fun i=>((i:Int),())) ()
  (fun i x hi hx=>by
   unfold Rb
   simp (disch:=omega) only[Af,Ag,Aa,Dj hi,A9,Ca hx,Ae,w64,Z9]
   rfl)
  (by unfold Rb;simp only[Af,Aa,Dk,An])
 unfold Adx Ani
 simp only[Ag,Aa,E0]
 rw[show((0:Int))=((0:Nat):Int)from rfl,hl]
 exact Au6 _ _
theorem Kh (a:List YB):Dx a a=true:=by simp[Dx]
def C9 (t:Ch):Int:=match G4 t with|some r=>r.1|none=>0
theorem Au7 (t:Ch) (h:t.2.1.length<=4294967296):G4 t=some (C9 t,()):=by
 obtain⟨r,h1,h2⟩:=Bhd t h
 unfold C9;rw[h1]
theorem Bl0 (t:Ch) (h:t.2.1.length<=4294967296):Agh t=some (C9 t,()):=by
 obtain⟨r,h1,h2⟩:=Bhd t h
 unfold C9;rw[h1,h2]
def A0v (t:Ch) (a:A7):Bool:=match Z2 t a with|some r=>r.1|none=>false
theorem Bl1 (t:Ch) (a:A7) (h:t.2.1.length<=4294967296):Z2 t a=some (A0v t a,()):=by
 obtain⟨r,h1,h2⟩:=Bqj t a h
 unfold A0v;rw[h1]
def K7 (l:List Ak) (i:Nat) (x:Ak):Bool:= !(Cs x && !decide (Fl l x.2.2.1<i))
def Hl (t:Ch):Bool:=inR t.1 1 6 && (!decide ((t.2.1.length:Int)>12) && (!decide (C9 t>t.1) && D3 (K7 t.2.1) t.2.1))
theorem Amg (t:Ch) (h:Cd t<=4294967296):V6 t=some (Hl t,()):=by
 obtain⟨cap,l,_⟩:=t
 simp only[Cd]at h
 have hl:=Fk (B:=Uh) l (fun i=>(l,(l.length:Int),(i:Int),cap,l,())) (K7 l) (false,()) ()
  (fun i x hi hx=>by
   have h2:=Mg (f:=A0) hx
   unfold Uh
   simp only[Af,Ag,Aa,Dj hi,A9,Ca hx,Ae]
   rw[R7 x zq0,Aad _ _ zq2,w64 zq0]
   simp only[Ae,K7]
   cases Cs x<;>cases decide (Fl l x.2.2.1<(i:Int))<;>rfl)
  (by unfold Uh;simp only[Af,Aa,Dk,An])
 unfold V6 Aty Hl
 simp only[Af,Ag,Aa,E0,Cj,Ae]
 rw[Au7 _ zq2,show((0:Int))=((0:Nat):Int)from rfl,hl]
 simp only[Ae]
 cases inR cap 1 6<;>cases decide ((l.length:Int)>12)<;>cases decide (C9 (cap,l,())>cap)<;>cases D3 (K7 l) l<;>rfl
theorem Bhg (t:Ch) (h:Cd t<=4294967296):Aia t=some (Hl t,()):=by
 obtain⟨cap,l,_⟩:=t
 simp only[Cd]at h
 have hl:=Fk (B:=T8) l (fun i=>((i:Int),cap,l,())) (K7 l) (false,()) ()
  (fun i x hi hx=>by
   have h2:=Mg (f:=A0) hx
   have h3:=Aeo (q:=fun y=>Dx y.2.2.1 x.2.2.1) hx (Kh _)
   have h4:(Fl l x.2.2.1 != (i:Int))=decide (Fl l x.2.2.1<(i:Int)):=by
    apply Kg;unfold Fl;simp;omega
   unfold T8
   simp only[Af,Ag,Aa,Dj hi,A9,Ca hx,Ae]
   rw[Aac x zq0,Bcl _ _ zq2,w64 zq0]
   simp only[Ae,K7,h4]
   cases Cs x<;>cases decide (Fl l x.2.2.1<(i:Int))<;>rfl)
  (by unfold T8;simp only[Af,Aa,Dk,An])
 unfold Aia As3 Hl
 simp only[Af,Ag,Aa,E0,Cq,Ae]
 rw[Bl0 _ zq2,show((0:Int))=((0:Nat):Int)from rfl,hl]
 simp only[Ae]
 cases inR cap 1 6<;>cases decide ((l.length:Int)>12)<;>cases decide (C9 (cap,l,())>cap)<;>cases D3 (K7 l) l<;>rfl
def C7 (l:List Ao) (a:A7):Int:=Lv (fun x=>eqA x.1 x.2.1 a.1 a.2.1) l
theorem Xt (l:List Ao) (a:A7) (h:l.length<=4294967296):N5 (l,()) a=some (C7 l a,()):=by
 obtain⟨p,q,_⟩:=a
 have hl:=Om (B:=Nv) l (fun i=>(l,(l.length:Int),(i:Int),p,q,())) (fun _ x=>eqA x.1 x.2.1 p q) (fun i=>((i:Int),())) ()
  (fun i x hi hx=>by
   unfold Nv
   simp (disch:=omega) only[Af,Ag,Aa,Dj hi,A9,Ca hx,Ae,w64]
   rfl)
  (by unfold Nv;simp only[Af,Aa,Dk,An])
 unfold N5 Afo
 simp only[Ag,Aa,E0]
 rw[show((0:Int))=((0:Nat):Int)from rfl,hl]
 exact Au6 _ _
theorem Aae (l:List Ao) (a:A7) (h:l.length<=4294967296):Aca (l,()) a=some (C7 l a,()):=by
 obtain⟨p,q,_⟩:=a
 have hl:=Om (B:=Uc) l (fun i=>(l,(i:Int),p,q,())) (fun _ x=>eqA x.1 x.2.1 p q) (fun i=>((i:Int),())) ()
  (fun i x hi hx=>by
   unfold Uc
   simp (disch:=omega) only[Af,Ag,Aa,Dj hi,A9,Ca hx,Ae,w64]
   rfl)
  (by unfold Uc;simp only[Af,Aa,Dk,An])
 unfold Aca Ath
 simp only[Ag,Aa,E0]
 rw[show((0:Int))=((0:Nat):Int)from rfl,hl]
 exact Au6 _ _
theorem Bcm (a b:Int):eqA a b a b=true:=by simp[eqA]
def Tl (l:List Ao) (i:Nat) (x:Ao):Bool:=
 !(Cn (x.1,x.2.1,()) && (inR x.2.2.1 0 1000000 && (inR x.2.2.2.1 0 (IntKind.i64.wrap (3*x.2.2.1)) && !decide (C7 l (x.1,x.2.1,())<i))))
def Ck (l:List Ao):Bool:= !decide ((l.length:Int)>8) && D3 (Tl l) l
theorem Uv (l:List Ao) (h:l.length<=4294967296):Md (l,())=some (Ck l,()):=by
 have hl:=Fk (B:=Mj) l (fun i=>(l,l,(l.length:Int),(i:Int),())) (Tl l) (false,()) ()
  (fun i x hi hx=>by
   unfold Mj
   simp only[Af,Ag,Aa,Dj hi,A9,Ca hx,Ae,Iq,Cj]
   rw[Xt _ _ h,w64 (n:=(i:Int)+1) zq0]
   simp only[Ae,Tl]
   cases Cn (x.1,x.2.1,())<;>cases inR x.2.2.1 0 1000000<;>cases inR x.2.2.2.1 0 (IntKind.i64.wrap (3*x.2.2.1))<;>cases decide (C7 l (x.1,x.2.1,())<(i:Int))<;>rfl)
  (by unfold Mj;simp only[Af,Aa,Dk,An])
 unfold Md Acw Ck
 simp only[Af,Ag,Aa,E0]
 rw[show((0:Int))=((0:Nat):Int)from rfl,hl]
 simp only[Ae]
 cases decide ((l.length:Int)>8)<;>cases D3 (Tl l) l<;>rfl
theorem Bok (l:List Ao) (h:l.length<=4294967296) (i:Nat) (x:Ao) (hx:l[i]? =some x):
  Ax H1 (l,(i:Int),(0:Int),())=some (bif D3 (fun _ y=>eqA y.1 y.2.1 x.1 x.2.1) (l.take i)then .inr (l,(i:Int),())else .inl (false,())):=by
 have hi:=(List.getElem?_eq_some_iff.1 hx).1
 have hlen:(l.take i).length=i:=by simp;omega
 have hl:=Fk (B:=H1) (l.take i) (fun j=>(l,(i:Int),(j:Int),())) (fun _ y=>eqA y.1 y.2.1 x.1 x.2.1) (false,()) (l,(i:Int),())
  (fun j y hj hy=>by
   have hy2:l[j]? =some y:=by rw[List.getElem?_take]at hy;split at hy;exact hy;cases hy
   unfold H1
   simp (disch:=omega) only[Af,Ag,Aa,Dj (show j<i by omega),A9,Ca hy2,Ca hx,Ae,w64]
   rfl)
  (by unfold H1;rw[hlen];simp only[Af,Aa,Dk,An])
 rw[show((0:Int))=((0:Nat):Int)from rfl,hl]
theorem Kr (l:List Ao) (h:l.length<=4294967296):Mc (l,())=some (Ck l,()):=by
 have hl:=Fk (B:=Jn) l (fun i=>(l,(i:Int),())) (Tl l) (false,()) ()
  (fun i x hi hx=>by
   have h3:=Awl (q:=fun y:Ao=>eqA y.1 y.2.1 x.1 x.2.1) hx (Bcm _ _)
   unfold Jn
   simp only[Af,Ag,Aa,E0,Dj hi,A9,Ca hx,Ae,Ir,Cq]
   rw[Bok l h i x hx]
   unfold Tl C7
   simp only[Ae]
   rw[h3]
   cases Cn (x.1,x.2.1,())<;>cases inR x.2.2.1 0 1000000<;>cases inR x.2.2.2.1 0 (IntKind.i64.wrap (3*x.2.2.1))<;>cases D3 (fun _ (y:Ao)=>eqA y.1 y.2.1 x.1 x.2.1) (l.take i)<;>first|rfl|(simp only[cond_true,A0u,br,Bool.not_true];rw[w64 zq0];rfl))
  (by unfold Jn;simp only[Af,Aa,Dk,An])
 unfold Mc U5 Ck
 simp only[Af,Ag,Aa,E0]
 rw[show((0:Int))=((0:Nat):Int)from rfl,hl]
 simp only[Ae]
 cases decide ((l.length:Int)>8)<;>cases D3 (Tl l) l<;>rfl
theorem Bjb (l:List Ao) (a:A7) (h:l.length<=4294967296): ∃r,Kq (l,()) a=some r/\Nc (l,()) a=some r:=by
 unfold Kq Abg Nc Ud
 simp only[Af,Ag,Aa]
 rw[Xt _ _ h,Aae _ _ h,Uv _ h,Kr _ h]
 simp only[Ae]
 have hb:=Awm (q:=fun x:Ao=>eqA x.1 x.2.1 a.1 a.2.1) (l:=l)
 cases Ck l with
 |false=>exact⟨_,rfl,rfl⟩
 |true=>
  by_cases hn:C7 l a<0
  .rw[Al hn];exact⟨_,rfl,rfl⟩
  .rw[Bq hn]
   obtain⟨e,he,_⟩:=Vs (l:=l) (n:=C7 l a) zq0 (by unfold C7;omega)
   rw[he]
   exact⟨_,rfl,rfl⟩
def A57 (l:List Ao) (a:A7):Int:=match Kq (l,()) a with|some r=>r.1|none=>0
theorem Bl2 (l:List Ao) (a:A7) (h:l.length<=4294967296):Kq (l,()) a=some (A57 l a,()):=by
 obtain⟨r,h1,h2⟩:=Bjb l a h
 unfold A57;rw[h1]
def Bl3 (s:Bs) (a:A7) (n:Int):Bool:=A0v (s.2.2.2.2.1,s.2.2.2.2.2.1,()) a || decide (A57 s.2.2.2.2.2.2.1 a≥n)
theorem Bcn (s:Bs) (a:A7) (n:YI) (h:Bo s<=4294967296):Ad2 s a n=some (Bl3 s a n.1,()):=by
 simp only[Bo]at h
 unfold Ad2 Aoz Bl3
 simp only[Af,Ag,Aa]
 rw[Bl1 _ _ zq2,Bl2 _ _ zq0]
 simp only[Ae,Bi9]
theorem E6 {E:Type} {l:List E} {i:Nat} {x:E} (h:l[i]? =some x):l.take i++[x]=l.take (i+1):=by
 rw[List.take_add_one,h];rfl
theorem Cg (b:YBs) (h:b.1.length<=4294967296):Bk b=some b:=by
 unfold Bk Atq
 simp only[Aj,Aa,List.length_nil,Nat.zero_add,List.nil_append]
 rw[Al h];rfl
def byt (n:Int) (j:Nat):YB:=(IntKind.u8.wrap (IntKind.i64.wrap ((BitVec.ofInt (IntKind.i64.bits) (Int.fdiv n (2^(min (8*j) IntKind.i64.bits))) &&& BitVec.ofInt (IntKind.i64.bits) (255:Int)).toNat:Nat)),())
def Fh (n:Int) (k i:Nat):List YB:=(List.range i).map fun j=>byt n (k-1-j)
theorem Gb (n:Int) (k i:Nat):(Fh n k i).length=i:=by simp[Fh]
theorem Bqm:Fc=En:=rfl
theorem A3t (b:List YB) (n:Int) (k:Nat) (h1:1<=k) (h6:k<=6) (hl:b.length<=1073741824):En (b,()) (n,()) ((k:Int),())=some (b++Fh n k k,()):=by
 have hr:=C0 (B:=Wo) k (fun i=>(n,b++Fh n k i,(k:Int)-1-(i:Int),())) (b++Fh n k k,())
  (fun i hi=>by
   unfold Wo
   simp only[Af,Aj,Aa]
   have e:(8:Int)*((k:Int)-1-(i:Int))=((8*(k-1-i):Nat):Int):=by omega
   rw[Al zq0,A9,w64 (n:=8*((k:Int)-1-(i:Int))) zq0,Al zq0,Ba,Al zq4,Ba,w64 (n:=(k:Int)-1-(i:Int)-1) zq0,e,Int.toNat_natCast]
   have e2:(b++Fh n k i)++[byt n (k-1-i)]=b++Fh n k (i+1):=by
    unfold Fh;rw[List.range_succ,List.map_append,List.append_assoc];rfl
   rw[<-e2,show(k:Int)-1-((i+1:Nat):Int)=(k:Int)-1-(i:Int)-1 by omega]
   rfl)
  (by unfold Wo;simp only[Af,Aa,Aj];rw[Bq zq0,An])
 unfold En Azk
 simp only[Af,Aj,Ag,Aa,List.nil_append,List.length_nil,Nat.zero_add]
 rw[Al zq0,Ba,Bq zq0,An,Bq zq0,An,w64 zq0]
 have e0:(n,b,(k:Int)-1,())=(n,b++Fh n k 0,(k:Int)-1-((0:Nat):Int),()):=by simp[Fh]
 rw[e0,hr]
 rfl
theorem Bco (b:List YB) (n:Int) (k:Nat) (h1:1<=k) (h6:k<=6) (hl:b.length<=1073741824):Fc (b,()) (n,()) ((k:Int),())=some (b++Fh n k k,()):=by
 rw[Bqm];exact A3t b n k h1 h6 hl
theorem K8 (b:List YB) (n:Int) (hl:b.length<=1073741824):En (b,()) (n,()) ((4:Int),())=some (b++Fh n 4 4,()):=A3t b n 4 zq0 zq0 hl
theorem Bhh (b:List YB) (n:Int) (hl:b.length<=1073741824):En (b,()) (n,()) ((6:Int),())=some (b++Fh n 6 6,()):=A3t b n 6 zq0 zq0 hl
theorem Oa (b:List YB) (n:Int) (hl:b.length<=1073741824):Fc (b,()) (n,()) ((4:Int),())=some (b++Fh n 4 4,()):=Bco b n 4 zq0 zq0 hl
theorem A58 (b:List YB) (n:Int) (hl:b.length<=1073741824):Fc (b,()) (n,()) ((6:Int),())=some (b++Fh n 6 6,()):=Bco b n 6 zq0 zq0 hl
def cat:List YBs->List YB
 |[]=>[]
 |x::r=>x.1++cat r
theorem Bcp (l:List YBs) (x:YBs):cat (l++[x])=cat l++x.1:=by
 induction l with
 |nil=>simp[cat]
 |cons y r ih=>simp[cat,ih]
theorem Bf2 (l:List YBs) (i:Nat):(cat (l.take i)).length<=(cat l).length:=by
 induction l generalizing i with
 |nil=>simp
 |cons y r ih=>cases i with
  |zero=>simp[cat]
  |succ i=>simp[cat];exact ih i
theorem Hn (l:List YBs) (h:(cat l).length<=4294967296) (h2:l.length<=4294967296):Er (l,())=some (cat l,()):=by
 have hr:=C0 (B:=Nw) l.length (fun i=>(cat (l.take i),l,(l.length:Int),(i:Int),())) (cat l,())
  (fun i hi=>by
   have hx:=List.getElem?_eq_getElem hi
   have h3:=Bf2 l (i+1)
   rw[<-E6 hx,Bcp]at h3
   simp only[List.length_append]at h3
   unfold Nw
   simp only[Af,Ag,Aa,Aj,Dj hi,A9,Ca hx,Ae]
   rw[Al zq0,Ba,w64 zq0,<-Bcp,E6 hx]
   rfl)
  (by unfold Nw;simp only[Af,Aa,Dk,An,List.take_length])
 unfold Er Aox
 simp only[Ag,Aa]
 rw[show Ax Nw ([],l,(l.length:Int),(0:Int),())=some (cat l,())from hr]
 rfl
theorem Aaf (n:YI):Mo n=some (inR n.1 4 8,()):=by
 unfold Mo Aov
 simp only[Ag,Aa,Cj,Ae]
theorem Aag (n:YI):O7 n=some (inR n.1 4 8,()):=by
 unfold O7 Anj
 simp only[Ag,Aa,Cq,Ae]
def Jb (k n:Int):Bool:=bif k==4 then decide (n<=40)else bif k==5 then n==12 else bif k==6 then n==12 else n==4
theorem Bol (k n:YI):Apv k n=some (Jb k.1 n.1,()):=by
 unfold Apv Aow Jb
 simp only[Af,Aa,Aec]
theorem A0w (k n:YI):Xd k n=some (Jb k.1 n.1,()):=by
 unfold Xd Anl Jb
 simp only[Af,Aa,Aec]
theorem Bf3 (f g:Aq):Me f g=some ((f.1==g.1) && ((f.2.1==g.2.1) && ((f.2.2.2.2.1==g.2.2.2.2.1) && ((f.2.2.2.2.2.2.2.1==g.2.2.2.2.2.2.2.1) && ((f.2.2.2.2.2.2.2.2.1==g.2.2.2.2.2.2.2.2.1) && (Dx f.2.2.1 g.2.2.1 && (Dx f.2.2.2.1 g.2.2.2.1 &&
  (Dx f.2.2.2.2.2.1 g.2.2.2.2.2.1 && (Dx f.2.2.2.2.2.2.1 g.2.2.2.2.2.2.1 && (Dx f.2.2.2.2.2.2.2.2.2.1 g.2.2.2.2.2.2.2.2.2.1 && Dx f.2.2.2.2.2.2.2.2.2.2.1 g.2.2.2.2.2.2.2.2.2.2.1))))))))),()):=by
 unfold Me Acx
 simp only[Af,Ag,Aa,I3,Ae,Rz]
def B6 (f:Aq):Bool:=
 bif inR f.1 4 8 then(f.2.1==0) && (((f.2.2.1.length:Int)==0) && (((f.2.2.2.1.length:Int)==12) && ((f.2.2.2.2.1==0) && (((f.2.2.2.2.2.1.length:Int)==0) && (((f.2.2.2.2.2.2.1.length:Int)==0) && (inR f.2.2.2.2.2.2.2.1 0 4294967295 && (inR f.2.2.2.2.2.2.2.2.1 0 281474976710655 &&
  (Jb f.1 (f.2.2.2.2.2.2.2.2.2.1.length:Int) && ((f.2.2.2.2.2.2.2.2.2.2.1.length:Int)==16)))))))))
 else(f.2.2.2.2.2.2.2.1==0) && ((f.2.2.2.2.2.2.2.2.1==0) && (((f.2.2.2.2.2.2.2.2.2.1.length:Int)==0) && (((f.2.2.2.2.2.2.2.2.2.2.1.length:Int)==0) && (((f.2.2.1.length:Int)==12) &&
  (bif f.1==1 then inR f.2.1 1 9 && (((f.2.2.2.1.length:Int)==0) && ((f.2.2.2.2.1==0) && (((f.2.2.2.2.2.1.length:Int)==0) && ((f.2.2.2.2.2.2.1.length:Int)==0))))
   else bif f.1==2 then(f.2.1==0) && (((f.2.2.2.1.length:Int)==12) && (inR f.2.2.2.2.1 0 1000000 && (((f.2.2.2.2.2.1.length:Int)==16) && ((f.2.2.2.2.2.2.1.length:Int)==0))))
   else(f.1==3) && (inR f.2.1 1 9 && (((f.2.2.2.1.length:Int)==12) && (inR f.2.2.2.2.1 0 1000000 && (((f.2.2.2.2.2.1.length:Int)==16) && ((f.2.2.2.2.2.2.1.length:Int)==16))))))))))
theorem Jc (f:Aq):Na f=some (B6 f,()):=by
 unfold Na Ajf B6
 simp only[Af,Ag,Aa,Aag,Cq,A0w,Ae,Aec,bne,Bool.cond_false_right,Bool.cond_true_left,Bool.cond_false_left,Bool.not_not]
theorem Ms (f:Aq):Dh f=some (B6 f,()):=by
 obtain⟨kind,id,cn,sn,tick,cookie,proof,epoch,seq,body,tag,_⟩:=f
 unfold Dh Ajz B6
 simp only[Af,Ag,Aa,Aaf,Cj,Hr,Bol,Bf3,A8b,Kh,beq_self_eq_true,Bool.true_and,Bool.and_true,Ae,Aec,Bool.cond_false_right,Bool.cond_true_left,Bool.cond_false_left,Bool.not_not]
 refine congrArg (fun b=>some (b,())) ?_
 by_cases h1:kind=1
 .subst h1
  apply Kg
  simp[inR]
  grind
 .by_cases h2:kind=2
  .subst h2
   apply Kg
   simp[inR]
   grind
  .by_cases h3:kind=3
   .subst h3
    apply Kg
    simp[inR]
    grind
   .have e1:(kind==1)=false:=by simpa using h1
    have e2:(kind==2)=false:=by simpa using h2
    have e3:(kind==3)=false:=by simpa using h3
    rw[e1,e2,e3]
    cases inR kind 4 8 with
    |false=>simp
    |true=>
     cases hb:Jb kind (body.length:Int)with
     |false=>simp
     |true=>
      apply Kg
      simp[inR]
      grind
def Nh (f:Aq):List YB:=
 bif !B6 f then []else
 bif f.1==1 then(IntKind.u8.wrap f.1,())::(IntKind.u8.wrap f.2.1,())::(f.2.2.1++List.replicate 20 ((0:Int),()))
 else bif f.1==2 then(IntKind.u8.wrap f.1,())::(f.2.2.1++(f.2.2.2.1++(Fh f.2.2.2.2.1 4 4++f.2.2.2.2.2.1)))
 else bif f.1==3 then(IntKind.u8.wrap f.1,())::(IntKind.u8.wrap f.2.1,())::(f.2.2.1++(f.2.2.2.1++(Fh f.2.2.2.2.1 4 4++(f.2.2.2.2.2.1++f.2.2.2.2.2.2.1))))
 else(IntKind.u8.wrap f.1,())::(f.2.2.2.1++(Fh f.2.2.2.2.2.2.2.1 4 4++(Fh f.2.2.2.2.2.2.2.2.1 6 6++(f.2.2.2.2.2.2.2.2.2.2.1++f.2.2.2.2.2.2.2.2.2.1))))
theorem Bqn (b:List YB) (hl:b.length<=1073741824):Ax Jp (b,(0:Int),())=some (b++List.replicate 20 ((0:Int),()),()):=by
 have hr:=C0 (B:=Jp) 20 (fun i=>(b++List.replicate i ((0:Int),()),(i:Int),())) (b++List.replicate 20 ((0:Int),()),())
  (fun i hi=>by
   unfold Jp
   simp only[Af,Aj,Aa]
   rw[Al zq0,A9,Al zq1,Ba,w64 zq0,List.append_assoc,<-List.replicate_succ']
   rfl)
  (by unfold Jp;simp only[Af,Aa,Aj];rfl)
 simpa using hr
theorem Bjc (f:Aq) (h:Ar f<=536870912):Lh f=some (Nh f,()):=by
 obtain⟨kind,id,cn,sn,tick,cookie,proof,epoch,seq,body,tag,_⟩:=f
 simp only[Ar]at h
 unfold Lh Afb Nh
 simp only[Af,Ag,Aa,Aj,Jc,Ae]
 cases B6 (kind,id,cn,sn,tick,cookie,proof,epoch,seq,body,tag,PUnit.unit)with
 |false=>rfl
 |true=>
  simp only[Bool.not_true,An,cond_false]
  cases kind==1 with
  |true=>
   simp only[A9,cond_true]
   rw[Al zq3,Ba,Al zq1,Ba,Bqn _ zq1]
   simp[ob]
  |false=>
   cases kind==2 with
   |true=>
    simp only[A9,An,cond_true,cond_false]
    rw[Al zq1,Ba,Al zq1,Ba,K8 _ _ zq1,Ae,Al zq4,Ba]
    simp
   |false=>
    cases kind==3 with
    |true=>
     simp only[A9,An,cond_true,cond_false]
     rw[Al zq3,Ba,Al zq1,Ba,Al zq1,Ba,K8 _ _ zq1,Ae,Al zq4,Ba,Al zq4,Ba]
     simp
    |false=>
     simp only[An,cond_false]
     rw[Al zq1,Ba,K8 _ _ zq1,Ae,Bhh _ _ zq4,Ae,Al zq4,Ba,Al zq4,Ba]
     simp
theorem A3u (f:Aq) (h:Ar f<=536870912):Ek f=some (Nh f,()):=by
 obtain⟨kind,id,cn,sn,tick,cookie,proof,epoch,seq,body,tag,_⟩:=f
 simp only[Ar]at h
 unfold Ek Afs Nh
 simp only[Af,Ag,Aa,Aj,Ms,Ae]
 cases B6 (kind,id,cn,sn,tick,cookie,proof,epoch,seq,body,tag,PUnit.unit)with
 |false=>rfl
 |true=>
  simp only[Bool.not_true,An,cond_false]
  cases kind==1 with
  |true=>
   simp only[A9,cond_true]
   rw[Hn _ zq5 zq3]
   simp[ob,cat]
  |false=>
   cases kind==2 with
   |true=>
    simp only[A9,An,cond_true,cond_false]
    rw[Oa _ _ zq3,Ae,Hn _ zq6 zq3]
    simp[ob,cat]
   |false=>
    cases kind==3 with
    |true=>
     simp only[A9,An,cond_true,cond_false]
     rw[Oa _ _ zq3,Ae,Hn _ zq6 zq3]
     simp[ob,cat]
    |false=>
     simp only[An,cond_false]
     rw[Oa _ _ zq3,Ae,A58 _ _ zq3,Ae,Hn _ zq6 zq3]
     simp[ob,cat]
def m32 (x:Int):Int:=IntKind.i64.wrap ((BitVec.ofInt (IntKind.i64.bits) x &&& BitVec.ofInt (IntKind.i64.bits) (4294967295:Int)).toNat:Nat)
theorem Au8 (x:Int):m32 x=x%4294967296:=by
 have h:((BitVec.ofInt (IntKind.i64.bits) x &&& BitVec.ofInt (IntKind.i64.bits) (4294967295:Int)).toNat:Int)=x%4294967296:=by
  show((BitVec.ofInt 64 x &&& BitVec.ofInt 64 (4294967295:Int)).toNat:Int)=x%4294967296
  rw[BitVec.toNat_and,BitVec.toNat_ofInt,BitVec.toNat_ofInt]
  have e:((4294967295:Int)%((2^64:Nat):Int)).toNat=2^32-1:=by decide
  rw[e,Nat.and_two_pow_sub_one_eq_mod]
  have e2:((2^64:Nat):Int)=18446744073709551616:=by decide
  rw[e2]
  omega
 unfold m32
 rw[h,w64 zq0]
theorem Bs3 (s:Int):IntKind.i64.wrap s%4294967296=s%4294967296:=by rw[IntKind.wrap_i64];omega
theorem Aqc (s:Int):m32 (IntKind.i64.wrap s)=s%4294967296:=by rw[Au8,Bs3]
theorem Bs4 (x:Int):0<=m32 x/\m32 x<=4294967295:=by rw[Au8];omega
theorem Bom (d t:Int):m32 (IntKind.i64.wrap (d+m32 t))=m32 (IntKind.i64.wrap (d+t)):=by rw[Aqc,Aqc,Au8];omega
theorem Bon (t u:Int):m32 (IntKind.i64.wrap (m32 t+m32 u))=m32 (IntKind.i64.wrap (t+u)):=by rw[Aqc,Aqc,Au8,Au8];omega
def Bjd (x n:Int):Int:=m32 (IntKind.i64.wrap ((BitVec.ofInt (IntKind.i64.bits) (Int.fdiv (m32 x) (2^(min n.toNat IntKind.i64.bits))) ||| BitVec.ofInt (IntKind.i64.bits) (IntKind.i64.wrap (m32 x*2^(min (IntKind.i64.wrap (32-n)).toNat IntKind.i64.bits)))).toNat:Nat))
theorem A3v (x n:YI) (h1:1<=n.1) (h2:n.1<=31):Mf x n=some (Bjd x.1 n.1,()):=by
 unfold Mf A5m
 simp only[Af,Aj,Aa]
 rw[Bq zq0,Bq zq0,Al zq0,w64 (n:=32-n.1) zq0,Al zq0]
 simp only[An,Ba,Bjd]
 rw[w64 (n:=32-n.1) zq0]
 rfl
theorem A3w (x n:YI) (h1:1<=n.1) (h2:n.1<=31):Mb x n=some (Bjd x.1 n.1,()):=by
 unfold Mb A45
 simp only[Af,Aj,Aa]
 rw[Bq zq0,Bq zq0,Al zq0,w64 (n:=32-n.1) zq0,Al zq0]
 simp only[An,Ba,Bjd]
 rw[w64 (n:=32-n.1) zq0]
 rfl
theorem Bhi (a b:YI):Aid a b=some (m32 (IntKind.i64.wrap (a.1+b.1)),()):=rfl
def Acc (l:List YB):Int:=l.foldl (fun n x=>IntKind.i64.wrap (IntKind.i64.wrap (n*256)+IntKind.i64.wrap x.1)) 0
theorem Ayy (l:List YB) (x:YB):Acc (l++[x])=IntKind.i64.wrap (IntKind.i64.wrap (Acc l*256)+IntKind.i64.wrap x.1):=by simp[Acc]
def A59 (b:List YB) (p k:Int):YI×YI×(Bool×Unit):=
 if 1<=k/\k<=6/\0<=p/\p+k<=b.length then((Acc ((b.drop p.toNat).take k.toNat),()),(p+k,()),(true,()))else((0,()),(0,()),(false,()))
theorem Brz (b:List YB) (p k:Int) (hl:b.length<=4294967296):A0k (b,()) (p,()) (k,())=some (A59 b p k):=by
 unfold A0k Azl A59
 simp only[Af,Ag,Aa]
 by_cases h1:k<1
 .rw[Al h1,A9,if_neg zq0]
 rw[Bq h1,An]
 by_cases h2:k>6
 .rw[Al h2,A9,if_neg zq0]
 rw[Bq h2,An]
 by_cases h3:p<0
 .rw[Al h3,A9,if_neg zq0]
 rw[Bq h3,An,w64 (n:=(b.length:Int)-k) zq0]
 by_cases h4:p>(b.length:Int)-k
 .rw[Al h4,A9,if_neg zq0]
 rw[Bq h4,An,if_pos zq0]
 have hr:=C0 (B:=Su) k.toNat (fun i=>(b,p,k,Acc ((b.drop p.toNat).take i),(i:Int),())) (p,k,Acc ((b.drop p.toNat).take k.toNat),())
  (fun i hi=>by
   have hlt:p.toNat+i<b.length:=by omega
   have hx:=List.getElem?_eq_getElem hlt
   have hx2:(b.drop p.toNat)[i]? =some b[p.toNat+i]:=by rw[List.getElem?_drop];exact hx
   unfold Su
   simp only[Af,Ag,Aa]
   rw[Al zq0,A9,w64 (n:=p+(i:Int)) zq0,show p+(i:Int)=((p.toNat+i:Nat):Int) by omega,Ca hx,Ae,w64 (n:=(i:Int)+1) zq0,<-E6 hx2,Ayy]
   rfl)
  (by
   unfold Su
   simp only[Af,Ag,Aa]
   rw[Bq zq0,An])
 rw[show Ax Su (b,p,k,(0:Int),(0:Int),())=_ from hr,Ae]
 simp only
 rw[w64 zq0]
theorem Bs5 (b:List YB) (p n:Int) (hl:b.length<=4294967296):A51 (b,()) (p,()) (n,())=some (if 0<=p/\0<=n/\p+n<=b.length then(((b.drop p.toNat).take n.toNat,()),(true,()))else(([],()),(false,()))):=by
 unfold A51 A5j
 simp only[Af,Aj,Aa]
 by_cases h1:p<0
 .rw[Al h1,A9,if_neg zq0]
 rw[Bq h1,An]
 by_cases h2:n<0
 .rw[Al h2,A9,if_neg zq0]
 rw[Bq h2,An]
 by_cases h3:p>(b.length:Int)
 .rw[Al h3,A9,if_neg zq0]
 rw[Bq h3,An,w64 (n:=(b.length:Int)-p) zq0]
 by_cases h4:n>(b.length:Int)-p
 .rw[Al h4,A9,if_neg zq0]
 rw[Bq h4,An,if_pos zq0,w64 (n:=p+n) zq0,Al zq0,Al zq0,Al zq0,Al zq1]
 simp only[Ba,List.nil_append]
 rw[show(p+n).toNat=p.toNat+n.toNat by omega,List.drop_take,Nat.add_sub_cancel_left]
theorem Bl4 (b:List YB) (p k:Int) (hl:b.length<=4294967296):Apu (b,()) (p,()) (k,())=some (A59 b p k):=by
 unfold Apu Az2 A59
 simp only[Af,Ag,Aa]
 by_cases h1:k<1
 .rw[Al h1,A9,if_neg zq0]
 rw[Bq h1,An]
 by_cases h2:k>6
 .rw[Al h2,A9,if_neg zq0]
 rw[Bq h2,An,Bs5 _ _ _ hl,Ae]
 by_cases h3:0<=p/\0<=k/\p+k<=b.length
 .rw[if_pos h3,if_pos zq0]
  simp only[Bool.not_true,An]
  have hlen:((b.drop p.toNat).take k.toNat).length=k.toNat:=by simp;omega
  have hr:=C0 (B:=Ta) k.toNat (fun i=>(p,k,Acc (((b.drop p.toNat).take k.toNat).take i),(b.drop p.toNat).take k.toNat,(((b.drop p.toNat).take k.toNat).length:Int),(i:Int),())) (p,k,Acc ((b.drop p.toNat).take k.toNat),())
   (fun i hi=>by
    have hx:=List.getElem?_eq_getElem (show i<((b.drop p.toNat).take k.toNat).length by omega)
    unfold Ta
    simp only[Af,Ag,Aa]
    rw[Al zq0,A9,Ca hx,Ae,w64 (n:=(i:Int)+1) zq0,<-E6 hx,Ayy,Int.mul_comm 256]
    rfl)
   (by
    unfold Ta
    simp only[Af,Ag,Aa]
    rw[Bq zq0,An,List.take_take,Nat.min_self])
  rw[show Ax Ta (p,k,(0:Int),(b.drop p.toNat).take k.toNat,(((b.drop p.toNat).take k.toNat).length:Int),(0:Int),())=_ from hr,Ae]
  simp only
  rw[w64 zq0]
 .rw[if_neg h3,if_neg zq0]
  rfl
theorem Aqd {E:Type} {l z:List E} {n:Int} (h0:0<=n) (h1:n<l.length):idx (l++z) n=idx l n:=by
 unfold idx
 rw[if_pos h0,if_pos h0,List.getElem?_append_left zq0]
theorem A8d {l:List YI} {i k:Nat} (h:l.length=i) (hk:i<k) (x:YI):(l++List.replicate (k-i) ((0:Int),())).set i x=(l++[x])++List.replicate (k-(i+1)) ((0:Int),()):=by
 rw[List.set_append_right _ _ zq0,h,Nat.sub_self,show k-i=(k-(i+1))+1 by omega,List.replicate_succ,List.set_cons_zero]
 simp
theorem Bcq {l:List YI} {i k:Nat} (h:l.length=i) (hk:i<k):idx (l++List.replicate (k-i) ((0:Int),())) (i:Int)=some ((0:Int),()):=by
 rw[Bi8,List.getElem?_append_right zq0,h,Nat.sub_self,List.getElem?_replicate,if_pos zq0]
theorem Bf4 (b:List YB) (hl:b.length<=4294967296): ∃r,Agq (b,())=some (r,())/\Agf (b,())=some (r,())/\(b.length=64->r.length=64):=by
 unfold Agq W2 Agf Wp
 simp only[Af,Ag,Aa]
 by_cases h:b.length=64
 .rw[C6 (by simp[h]),C6 (by simp[h])]
  obtain⟨o1,o2,h1,h2,hq⟩:=Vr (B1:=Kz) (B2:=Kt)
   (fun i d1 d2=>∃l:List YI,l.length=i/\d1=(b,l++List.replicate (64-i) ((0:Int),()),(i:Int),())/\d2=(b,l,(i:Int),()))
   (fun o1 o2=>o2.1.length=16/\o1=(o2.1++List.replicate 48 ((0:Int),()),())) 16
   (by
    rintro i d1 d2 hi ⟨l,hll,rfl,rfl⟩
    left
    unfold Kz Kt
    simp only[Af,Ag,Aa,Aj]
    rw[Al zq0,A9,A9,w64 (n:=4*(i:Int)) zq0,Bl4 _ _ _ hl,Brz _ _ _ hl,Ae,Ae,Bcq hll zq0,Ae,Al zq1,Ba,w64 zq0,Int.toNat_natCast,A8d hll zq0]
    exact⟨_,_,rfl,rfl,l++[(A59 b (4*(i:Int)) 4).1],by simp[hll],rfl,rfl⟩)
   (by
    rintro d1 d2 ⟨l,hll,rfl,rfl⟩
    unfold Kz Kt
    simp only[Af,Ag,Aa,Aj]
    rw[Bq zq0,An,An]
    exact⟨_,_,rfl,rfl,hll,by simp only[Nat.reduceSub]⟩)
   (d1:=(b,List.replicate 64 ((0:Int),()),(0:Int),())) (d2:=(b,[],(0:Int),())) ⟨[],rfl,by simp only[Nat.sub_zero,List.nil_append,Int.natCast_zero],by simp only[Int.natCast_zero]⟩
  rw[show(64:Int).toNat=64 from rfl,h1,h2,Ae,Ae]
  obtain⟨hq1,rfl⟩:=hq
  obtain⟨o3,o4,h3,h4,hq⟩:=Vr (B1:=K0) (B2:=Jm)
   (fun i d1 d2=>∃l:List YI,l.length=16+i/\d1=(l++List.replicate (64-(16+i)) ((0:Int),()),((16+i:Nat):Int),())/\d2=(l,((16+i:Nat):Int),()))
   (fun o1 o2=>o1=o2/\o2.1.length=64) 48
   (by
    rintro i d1 d2 hi ⟨l,hll,rfl,rfl⟩
    left
    obtain⟨e1,g1,_⟩:=Vs (l:=l) (n:=((16+i:Nat):Int)-15) zq0 zq0
    obtain⟨e2,g2,_⟩:=Vs (l:=l) (n:=((16+i:Nat):Int)-2) zq0 zq0
    obtain⟨e3,g3,_⟩:=Vs (l:=l) (n:=((16+i:Nat):Int)-7) zq0 zq0
    obtain⟨e4,g4,_⟩:=Vs (l:=l) (n:=((16+i:Nat):Int)-16) zq0 zq0
    unfold K0 Jm
    simp only[Af,Ag,Aa,Aj]
    rw[Al zq0,A9,A9,w64 (n:=((16+i:Nat):Int)-15) zq0,w64 (n:=((16+i:Nat):Int)-2) zq0,w64 (n:=((16+i:Nat):Int)-7) zq0,w64 (n:=((16+i:Nat):Int)-16) zq0,
     w64 (n:=((16+i:Nat):Int)+1) zq0]
    rw[Aqd zq0 zq0,g1,Ae,Aqd zq0 zq0,g2,Ae,A3v _ _ zq7 zq7,Ae,A3v _ _ zq7 zq7,Ae,A3v _ _ zq7 zq7,Ae,A3v _ _ zq7 zq7,Ae,Aqd zq0 zq0,g3,Ae,Aqd zq0 zq0,g4,Ae,Bcq hll zq0,Ae]
    rw[Ae,Ae,A3w _ _ zq7 zq7,Ae,A3w _ _ zq7 zq7,Ae,A3w _ _ zq7 zq7,Ae,A3w _ _ zq7 zq7,Ae,Ae,Ae,Int.toNat_natCast]
    generalize IntKind.i64.wrap (((BitVec.ofInt _ _ &&& BitVec.ofInt _ (4294967295:Int)).toNat:Nat):Int)=z
    rw[Al (by rw[List.length_singleton];omega),Ba,A8d hll zq0]
    exact⟨_,_,rfl,rfl,_,by simp[hll];omega,rfl,rfl⟩)
   (by
    rintro d1 d2 ⟨l,hll,rfl,rfl⟩
    unfold K0 Jm
    simp only[Af,Ag,Aa,Aj]
    rw[Bq zq0,An,An]
    exact⟨_,_,rfl,rfl,by simp,by omega⟩)
   (d1:=(o2.1++List.replicate 48 ((0:Int),()),(16:Int),())) (d2:=(o2.1,(16:Int),())) ⟨o2.1,hq1,by simp only[Nat.add_zero,Nat.reduceSub];rfl,rfl⟩
  rw[h3,h4]
  obtain⟨rfl,hq2⟩:=hq
  exact⟨o3.1,rfl,rfl,fun _=>hq2⟩
 .have h': ¬((b.length:Int)=64):=by omega
  rw[Ei (by simpa using h'),Ei (by simpa using h')]
  exact⟨[],rfl,rfl,fun h2=>(h h2).elim⟩
def kL:List YI:=Ui.map fun x=>(x,())
theorem Bs6:Bhb=some (kL,()):=rfl
theorem Bf5 (n:YI):Asc n=some (Ab2 n.1,()):=rfl
theorem Bs7 (i:Nat) (h:i<64):idx kL (i:Int)=some (Ab2 (i:Int),()):=by
 rw[Bi8]
 unfold kL Ab2
 rw[List.getElem?_map,if_pos zq0,Int.toNat_natCast]
 have:i<Ui.length:=by simpa [Ui] using h
 rw[List.getElem?_eq_getElem this];rfl
theorem Bl5 (l:List YI) (hl:l.length<=4294967296):Akh (l,())=some (Gk l && ((l.length:Int)==8),()):=by
 have h:=Fk (B:=Pp) l (fun i=>(l,(i:Int),())) (fun _ e=> !inR e.1 0 4294967295) (false,()) (l,())
  (fun i x hi hx=>by
   unfold Pp
   simp (disch:=omega) only[Af,Ag,Aa,Dj hi,A9,Ca hx,Ae,Cq,w64]
   rfl)
  (by unfold Pp;simp only[Af,Ag,Aa,Dk,An])
 unfold Akh Ai9
 simp only[Ag,E0,Aa]
 rw[show((0:Int))=((0:Nat):Int)from rfl,h]
 unfold Gk
 cases D3 (fun _ (e:YI)=> !inR e.1 0 4294967295) l<;>rfl
theorem Bl6 (x:BitVec IntKind.i64.bits):BitVec.ofInt (IntKind.i64.bits) (4294967295:Int) ^^^ x=x ^^^ BitVec.ofInt (IntKind.i64.bits) (4294967295:Int):=BitVec.xor_comm _ _
theorem Aed {l:List YI}:Gk l=true↔ ∀(j:Nat) (x:YI),l[j]? =some x->0<=x.1/\x.1<=4294967295:=by
 unfold Gk
 rw[G7]
 simp only[Bool.not_eq_false',Bj]
theorem Bl7 (h out w:List YI) (hw:w.length=64) (a b c d e f g z:Int):
  ∃a' b' c' d' e' f' g' z',Ax Ip (h,out,w,a,b,c,d,e,f,g,z,(0:Int),())=some (h,out,a',b',c',d',e',f',g',z',())/\
   Ax Il (h,out,kL,w,a,b,c,d,e,f,g,z,(0:Int),())=some (h,out,a',b',c',d',e',f',g',z',()):=by
 obtain⟨o1,o2,h1,h2,hq⟩:=Vr (B1:=Ip) (B2:=Il)
  (fun i d1 d2=>∃a b c d e f g z:Int,d1=(h,out,w,a,b,c,d,e,f,g,z,(i:Int),())/\d2=(h,out,kL,w,a,b,c,d,e,f,g,z,(i:Int),()))
  (fun o1 o2=>o1=o2/\ ∃a b c d e f g z:Int,o1=(h,out,a,b,c,d,e,f,g,z,())) 64
  (by
   rintro i d1 d2 hi ⟨a,b,c,d,e,f,g,z,rfl,rfl⟩
   left
   obtain⟨x,hx⟩: ∃x,w[i]? =some x:=⟨_,List.getElem?_eq_getElem zq0⟩
   have hk:=Bs7 i hi
   unfold Ip Il
   simp only[Af,Ag,Aa,Aj]
   rw[Al zq0,A9,A9]
   simp (disch:=decide) only[A3v,A3w,Ae,Bf5,Ca hx,hk,Bhi,Bl6]
   rw[w64 (n:=(i:Int)+1) zq0]
   refine⟨_,_,rfl,rfl,_,_,_,_,_,_,_,_,rfl,?_⟩
   simp only[Prod.mk.injEq,true_and,and_true]
   exact⟨Bon _ _,Bom _ _,by omega⟩)
  (by
   rintro d1 d2 ⟨a,b,c,d,e,f,g,z,rfl,rfl⟩
   unfold Ip Il
   simp only[Af,Ag,Aa,Aj]
   exact⟨_,_,rfl,rfl,rfl,_,_,_,_,_,_,_,_,rfl⟩)
  (d1:=(h,out,w,a,b,c,d,e,f,g,z,(0:Int),())) (d2:=(h,out,kL,w,a,b,c,d,e,f,g,z,(0:Int),())) ⟨a,b,c,d,e,f,g,z,rfl,rfl⟩
 obtain⟨rfl,a',b',c',d',e',f',g',z',rfl⟩:=hq
 exact⟨_,_,_,_,_,_,_,_,h1,h2⟩
theorem Bqo (h l:List YI) (hh:h.length=8) (hl:l.length=8): ∃r:List YI,r.length=8/\Gk r=true/\Ax H3 (h,h,l,(l.length:Int),(0:Int),())=some (r,())/\Ax H0 (h,h,l,(0:Int),())=some (r,()):=by
 obtain⟨o1,o2,h1,h2,hq⟩:=Vr (B1:=H3) (B2:=H0)
  (fun i d1 d2=>∃out:List YI,out.length=8/\(∀j x,j<i->out[j]? =some x->0<=x.1/\x.1<=4294967295)/\d1=(h,out,l,(l.length:Int),(i:Int),())/\d2=(h,out,l,(i:Int),()))
  (fun o1 o2=>o1=o2/\o1.1.length=8/\Gk o1.1=true) 8
  (by
   rintro i d1 d2 hi ⟨out,ho,hb,rfl,rfl⟩
   left
   obtain⟨x,hx⟩: ∃x,h[i]? =some x:=⟨_,List.getElem?_eq_getElem zq0⟩
   obtain⟨y,hy⟩: ∃y,l[i]? =some y:=⟨_,List.getElem?_eq_getElem zq0⟩
   obtain⟨q,hq⟩: ∃q,out[i]? =some q:=⟨_,List.getElem?_eq_getElem zq0⟩
   unfold H3 H0
   simp only[Af,Ag,Aa,Aj]
   rw[Al zq0,Al zq0,A9,A9]
   simp only[Ca hx,Ca hy,Ca hq,Ae,Bhi,Int.toNat_natCast]
   rw[w64 (n:=(i:Int)+1) zq0]
   refine⟨_,_,rfl,rfl,out.set i (m32 (IntKind.i64.wrap (x.1+y.1)),()),by simp[ho],fun j v hj hv=>?_,rfl,rfl⟩
   rw[List.getElem?_set]at hv
   split at hv
   .rename_i e
    subst e
    split at hv
    .simp at hv;subst hv;exact Bs4 _
    .cases hv
   .exact hb j v zq0 hv)
  (by
   rintro d1 d2 ⟨out,ho,hb,rfl,rfl⟩
   unfold H3 H0
   simp only[Af,Ag,Aa,Aj]
   rw[Bq zq0,An]
   refine⟨_,_,rfl,rfl,rfl,ho,?_⟩
   rw[Aed]
   intro j x hx
   exact hb j x (by have:=(List.getElem?_eq_some_iff.1 hx).1;dsimp only at this;omega) hx)
  (d1:=(h,h,l,(l.length:Int),(0:Int),())) (d2:=(h,h,l,(0:Int),())) ⟨h,hh,fun j x hj=>by omega,rfl,rfl⟩
 obtain⟨rfl,hq1,hq2⟩:=hq
 exact⟨o1.1,hq1,hq2,h1,h2⟩
theorem Aks (h:List YI) (b:List YB) (hh:h.length<=1073741824) (hb:b.length<=4294967296):
  ∃r,Rt (h,()) (b,())=some (r,())/\Xc (h,()) (b,())=some (r,())/\r.length=h.length/\(Gk h=true->Gk r=true):=by
 obtain⟨w,hw1,hw2,hw3⟩:=Bf4 b hb
 unfold Rt W3 Xc Wq
 simp only[Af,Ag,Aa,Aj,List.nil_append,List.length_nil,Nat.zero_add]
 rw[Al zq0,Ba,Ba,Aqb _ _ zq0,Bl5 _ zq0,Ae,Ae]
 cases hwb:(Gk h && ((h.length:Int)==8))with
 |false=>exact⟨h,rfl,rfl,rfl,id⟩
 |true=>
  have hlen:h.length=8:=by simp at hwb;omega
  have hwd:Gk h=true:=by simp at hwb;exact hwb.1
  simp only[Bool.not_true,An]
  by_cases hb64:b.length=64
  .rw[C6 (by simp[hb64]),C6 (by simp[hb64]),hw1,hw2,Bs6]
   simp only[Ae]
   match h,hlen with
   |[x0,x1,x2,x3,x4,x5,x6,x7],_=>
    simp only[show idx [x0,x1,x2,x3,x4,x5,x6,x7] (0:Int)=some x0 from rfl,show idx [x0,x1,x2,x3,x4,x5,x6,x7] (1:Int)=some x1 from rfl,show idx [x0,x1,x2,x3,x4,x5,x6,x7] (2:Int)=some x2 from rfl,show idx [x0,x1,x2,x3,x4,x5,x6,x7] (3:Int)=some x3 from rfl,
     show idx [x0,x1,x2,x3,x4,x5,x6,x7] (4:Int)=some x4 from rfl,show idx [x0,x1,x2,x3,x4,x5,x6,x7] (5:Int)=some x5 from rfl,show idx [x0,x1,x2,x3,x4,x5,x6,x7] (6:Int)=some x6 from rfl,show idx [x0,x1,x2,x3,x4,x5,x6,x7] (7:Int)=some x7 from rfl,Ae]
    obtain⟨a',b',c',d',e',f',g',z',q1,q2⟩:=Bl7 [x0,x1,x2,x3,x4,x5,x6,x7] [x0,x1,x2,x3,x4,x5,x6,x7] w (hw3 hb64) x0.1 x1.1 x2.1 x3.1 x4.1 x5.1 x6.1 x7.1
    rw[q1,q2]
    simp only[Ae]
    obtain⟨r,r1,r2,r3,r4⟩:=Bqo [x0,x1,x2,x3,x4,x5,x6,x7] [(a',()),(b',()),(c',()),(d',()),(e',()),(f',()),(g',()),(z',())] rfl rfl
    rw[r3,r4]
    exact⟨r,rfl,rfl,r1,fun _=>r2⟩
  .have h': ¬((b.length:Int)=64):=by omega
   rw[Ei (by simpa using h'),Ei (by simpa using h')]
   exact⟨h,rfl,rfl,rfl,id⟩
def J0 (h:List YI) (b:List YB):List YI:=match Rt (h,()) (b,())with|some r=>r.1|none=>[]
theorem Bje (h:List YI) (b:List YB) (hh:h.length<=1073741824) (hb:b.length<=4294967296):Rt (h,()) (b,())=some (J0 h b,()):=by
 obtain⟨r,h1,h2,_⟩:=Aks h b hh hb
 unfold J0;rw[h1]
theorem Bjf (h:List YI) (b:List YB) (hh:h.length<=1073741824) (hb:b.length<=4294967296):Xc (h,()) (b,())=some (J0 h b,()):=by
 obtain⟨r,h1,h2,_⟩:=Aks h b hh hb
 unfold J0;rw[h1,h2]
theorem Agz (h:List YI) (b:List YB) (hh:h.length<=1073741824) (hb:b.length<=4294967296):(J0 h b).length=h.length/\(Gk h=true->Gk (J0 h b)=true):=by
 obtain⟨r,h1,h2,h3,h4⟩:=Aks h b hh hb
 unfold J0;rw[h1];exact⟨h3,h4⟩
def Ie (h:List YI) (b:List YB):List YI×List YB:=if 64<=b.length then Ie (J0 h (b.take 64)) (b.drop 64)else(h,b)
termination_by b.length
decreasing_by simp;omega
theorem Acd {h:List YI} {b:List YB} (hb:64<=b.length):Ie h b=Ie (J0 h (b.take 64)) (b.drop 64):=by rw[Ie,if_pos hb]
theorem On {h:List YI} {b:List YB} (hb: ¬64<=b.length):Ie h b=(h,b):=by rw[Ie,if_neg hb]
theorem Boo: ∀(n:Nat) (h:List YI) (b p:List YB),b.length<=n->Ie h (b++p)=Ie (Ie h b).1 ((Ie h b).2++p):=by
 intro n
 induction n with
 |zero=>intro h b p hn;rw[On (b:=b) zq0]
 |succ n ih=>
  intro h b p hn
  by_cases hb:64<=b.length
  .rw[Acd (b:=b) hb,Acd (b:=b++p) zq1,List.take_append_of_le_length hb,List.drop_append_of_le_length hb]
   exact ih _ _ _ zq1
  .rw[On (b:=b) hb]
theorem Amh: ∀(n:Nat) (h:List YI) (b:List YB),b.length<=n->h.length<=1073741824->(Ie h b).2.length=b.length%64/\(Ie h b).1.length=h.length/\(Gk h=true->Gk (Ie h b).1=true):=by
 intro n
 induction n with
 |zero=>intro h b hn hh;rw[On zq0];exact⟨by simp;omega,rfl,id⟩
 |succ n ih=>
  intro h b hn hh
  by_cases hb:64<=b.length
  .rw[Acd hb]
   have hc:=Agz h (b.take 64) hh zq1
   obtain⟨h1,h2,h3⟩:=ih (J0 h (b.take 64)) (b.drop 64) zq1 zq0
   refine⟨?_,by omega,fun hw=>h3 (hc.2 hw)⟩
   rw[h1,List.length_drop];omega
  .rw[On hb];exact⟨by simp only;omega,rfl,id⟩
theorem Ase (h:List YI) (b:List YB) (hh:h.length<=1073741824) (hb:b.length<=4294967296):Qv (h,()) (b,())=some (((Ie h b).1,()),((Ie h b).2,())):=by
 have key: ∀(n:Nat) (h:List YI) (b:List YB),b.length<=n->h.length<=1073741824->b.length<=4294967296->Ax G3 (h,b,())=some ((Ie h b).1,(Ie h b).2,()):=by
  intro n
  induction n with
  |zero=>
   intro h b hn hh hb
   rw[On zq0,Ed]
   unfold G3
   simp only[Af,Aj,Ag,Aa]
   rw[Bq zq0,An]
  |succ n ih=>
   intro h b hn hh hb
   rw[Ed]
   by_cases h64:64<=b.length
   .have hB:G3 (h,b,())=some (.inl (J0 h (b.take 64),b.drop 64,())):=by
     unfold G3
     simp only[Af,Aj,Ag,Aa]
     rw[Al zq0,A9,Al zq0]
     simp only[Ba,show(64:Int).toNat=64 from rfl,show(0:Int).toNat=0 from rfl,List.drop_zero,Int.toNat_natCast,List.take_length]
     rw[Bje _ _ hh zq1,Ae]
    have hc:=Agz h (b.take 64) hh zq1
    rw[hB,Acd h64,<-ih (J0 h (b.take 64)) (b.drop 64) zq1 zq0 zq1]
   .unfold G3
    simp only[Af,Aj,Ag,Aa]
    rw[Bq zq0,An,On h64]
 unfold Qv W5
 simp only[Ag,Aa]
 rw[key _ h b (Nat.le_refl _) hh hb]
 rfl
theorem Bl8 (all:List YB) (ha:all.length<=4294967296): ∀(n i:Nat) (h:List YI),all.length-i<=n->i<=all.length->(all.length-i)%64=0->h.length<=1073741824->Ax V3 (all,h,(i:Int),())=some ((Ie h (all.drop i)).1,()):=by
 intro n
 induction n with
 |zero=>
  intro i h hn hi hm hh
  rw[On zq1,Ed]
  unfold V3
  simp only[Af,Aj,Ag,Aa]
  rw[Bq zq0,An]
 |succ n ih=>
  intro i h hn hi hm hh
  rw[Ed]
  unfold V3
  simp only[Af,Aj,Ag,Aa]
  by_cases h64:i<all.length
  .rw[Al zq0,A9,Al zq0,Ba,w64 (n:=(i:Int)+64) zq0,Al zq0,Ba,Al zq0,Ba]
   have e:(all.take ((i:Int)+64).toNat).drop ((i:Int)).toNat=(all.drop i).take 64:=by
    rw[show((i:Int)+64).toNat=i+64 by omega,Int.toNat_natCast,List.drop_take,Nat.add_sub_cancel_left]
   rw[e,Bjf _ _ hh zq1,Ae]
   simp only
   have hc:=Agz h ((all.drop i).take 64) hh zq1
   rw[Acd (b:=all.drop i) zq1,List.drop_drop,show(i:Int)+64=((i+64:Nat):Int) by omega]
   exact ih (i+64) _ zq0 zq0 zq0 zq0
  .rw[Bq zq0,An,On zq1]
theorem Bcr (m:Int) (j:Nat) (h0:0<=m) (h1:m<4294967296) (hj:4<=j) (hj2:j<=7):byt m j=((0:Int),()):=by
 have e:Int.fdiv m (2^(min (8*j) IntKind.i64.bits))=0:=by
  have hp:(4294967296:Int)<=2^(min (8*j) IntKind.i64.bits):=by
   have:j=4\/j=5\/j=6\/j=7:=by omega
   rcases this with rfl|rfl|rfl|rfl<;>decide
  rw[Int.fdiv_eq_ediv_of_nonneg _ zq0]
  exact Int.ediv_eq_zero_of_lt h0 zq0
 unfold byt
 rw[e];rfl
def Akt (n:Nat):Nat:=(64-(n+9)%64)%64
def Aah (n:Nat):List YB:=(((128:Int),())::List.replicate (Akt n) ((0:Int),()))++([((0:Int),()),((0:Int),())]++Fh (8*(n:Int)) 6 6)
theorem Bcs (n:Nat):(Aah n).length=Akt n+9:=by simp[Aah,Gb]
theorem Bhj (n:Nat) (h:n<=1048576):Ax Rn ((n:Int),[((128:Int),())],())=some ((n:Int),((128:Int),())::List.replicate (Akt n) ((0:Int),()),()):=by
 have hk:Akt n=(64-(n+9)%64)%64:=rfl
 refine C0 (B:=Rn) (Akt n) (fun i=>((n:Int),((128:Int),())::List.replicate i ((0:Int),()),())) _ (fun i hi=>?_) ?_
 .unfold Rn
  simp only[Af,Aj,Aa,List.length_cons,List.length_replicate]
  rw[w64 (n:=(n:Int)+((i+1:Nat):Int)) zq0,w64 zq0,Al zq0,Ba,Ei zq1,Al zq1,Ba,List.cons_append,<-List.replicate_succ']
 .unfold Rn
  simp only[Af,Aj,Aa,List.length_cons,List.length_replicate]
  rw[w64 (n:=(n:Int)+((Akt n+1:Nat):Int)) zq0,w64 zq0,Al zq0,Ba,C6 zq1]
theorem Bs8 (n:Nat) (h:n<=1048576):A52 ((n:Int),())=some (Aah n,()):=by
 have hk:Akt n<64:=Nat.mod_lt _ zq0
 unfold A52 A5o
 simp only[Af,Aj,Ag,Aa,Cj,Ae]
 rw[C6 zq8,Bhj n h,Ae,Al zq1,Ba,w64 zq0,A58 _ _ zq1,Ae]
 unfold Aah
 simp
theorem Bs9 (n:Nat) (h:n<=1048576):A50 ((n:Int),())=some (Aah n,()):=by
 have hk:Akt n<64:=Nat.mod_lt _ zq0
 unfold A50 A43
 simp only[Af,Aj,Ag,Aa,Ae]
 rw[Bq zq0,An,Bq zq0,An,show Asp=Rn from rfl,Bhj n h,Ae,K8 _ _ zq1,Ae,K8 _ _ zq4,Ae,w64 zq0]
 unfold Aah
 have e0:Fh 0 4 4=[((0:Int),()),((0:Int),()),((0:Int),()),((0:Int),())]:=by
  unfold Fh
  simp only[show List.range 4=[0,1,2,3]from rfl,List.map]
  rfl
 have e6:Fh (8*(n:Int)) 6 6=[((0:Int),()),((0:Int),())]++Fh (8*(n:Int)) 4 4:=by
  have a:=Bcr (8*(n:Int)) 5 zq0 zq0 zq0 zq0
  have b:=Bcr (8*(n:Int)) 4 zq0 zq0 zq0 zq0
  unfold Fh
  simp only[show List.range 4=[0,1,2,3]from rfl,show List.range 6=[0,1,2,3,4,5]from rfl,List.map]
  rw[show 6-1-0=5 from rfl,show 6-1-1=4 from rfl,a,b]
  rfl
 rw[e0,e6]
 simp
def Aai (l:List YI):List YB:=l.flatMap fun x=>Fh x.1 4 4
theorem Aqe (l:List YI):(Aai l).length=4*l.length:=by
 unfold Aai
 induction l with
 |nil=>rfl
 |cons x r ih=>simp only[List.flatMap_cons,List.length_append,Gb,ih,List.length_cons];omega
theorem A8e (l:List YI) (x:YI):Aai (l++[x])=Aai l++Fh x.1 4 4:=by simp[Aai]
theorem Bf6 (l:List YI) (h:l.length<=1048576):Adb (l,())=some (Aai l,()):=by
 have hr:=C0 (B:=Js) l.length (fun i=>(Aai (l.take i),l,(l.length:Int),(i:Int),())) (Aai l,())
  (fun i hi=>by
   have hx:=List.getElem?_eq_getElem hi
   unfold Js
   simp only[Af,Ag,Aa,Dj hi,A9,Ca hx,Ae]
   rw[Oa _ _ (by rw[Aqe];simp;omega),Ae,w64 zq0,<-E6 hx,A8e]
   rfl)
  (by unfold Js;simp only[Af,Aa,Dk,An,List.take_length])
 unfold Adb Acy
 simp only[Ag,Aa]
 rw[show Ax Js ([],l,(l.length:Int),(0:Int),())=_ from hr]
 rfl
theorem Bqp (l:List YI) (h:l.length=8):Auq (l,())=some (Aai l,()):=by
 have hr:=C0 (B:=Qc) 8 (fun i=>(l,Aai (l.take i),(i:Int),())) (Aai l,())
  (fun i hi=>by
   have hx:=List.getElem?_eq_getElem (show i<l.length by omega)
   unfold Qc
   simp only[Af,Ag,Aa]
   rw[Al zq0,A9,Ca hx,Ae,K8 _ _ (by rw[Aqe];simp;omega),Ae,w64 zq0,<-E6 hx,A8e]
   rfl)
  (by unfold Qc;simp only[Af,Aa];rw[Bq zq0,An,<-h,List.take_length])
 unfold Auq Ass
 simp only[Ag,Aa]
 rw[show Ax Qc (l,[],(0:Int),())=_ from hr]
 rfl
def Gl:List YI:=[((1779033703:Int),()),((3144134277:Int),()),((1013904242:Int),()),((2773480762:Int),()),((1359893119:Int),()),((2600822924:Int),()),((528734635:Int),()),((1541459225:Int),())]
theorem Bl9:Gk Gl=true:=by decide
def Au9 (h:Qu):Bool:=(Gk h.1 && ((h.1.length:Int)==8)) && (inR h.2.2.1 0 1048576 && ((h.2.2.1%64)==(h.2.1.length:Int)))
theorem Bct (h:Qu) (hl:h.1.length<=4294967296):Ad3 h=some (Au9 h,()):=by
 unfold Ad3 Ao1 Au9
 simp only[Af,Aj,Ag,Aa,Cj,Ae]
 rw[Aqb _ _ hl,Ae]
 cases (Gk h.1 && ((h.1.length:Int)==8))with
 |false=>rfl
 |true=>
  cases hn:inR h.2.2.1 0 1048576 with
  |false=>rfl
  |true=>
   have:=Bj.1 hn
   simp only[A9]
   rw[Al zq0,Ba]
   simp
def sha (b:List YB):List YB:=if b.length<=1048576 then Aai (Ie Gl (b++Aah b.length)).1 else []
theorem Bhk (b:List YB):(sha b).length=32\/(sha b).length=0:=by
 unfold sha
 split
 .left
  rw[Aqe,(Amh _ Gl _ (Nat.le_refl _) zq7).2.1];rfl
 .right;rfl
theorem Bjg (b:List YB):Al6 (b,())=some (sha b,()):=by
 unfold Al6 A47 sha
 simp only[Af,Aj,Ag,Aa,List.nil_append,List.length_nil,Nat.zero_add]
 by_cases h:b.length<=1048576
 .have hp:=Bcs b.length
  have hk:Akt b.length=(64-(b.length+9)%64)%64:=rfl
  have hl:=Bl8 (b++Aah b.length) zq1 (b++Aah b.length).length 0 Gl zq0 zq0 zq1 zq7
  rw[List.drop_zero]at hl
  rw[Bq zq0,An,Al zq0,Ba,Bs9 _ h,Ae,Al zq1,Ba,show A78=some (Gl,())from rfl,Ae]
  rw[show Ax V3 (b++Aah b.length,Gl,(0:Int),())=_ from hl,Ae]
  rw[Bqp _ ((Amh _ Gl _ (Nat.le_refl _) zq7).2.1),if_pos h]
  rfl
 .rw[Al zq0,A9,if_neg h]
theorem Bjh (b:List YB) (hb:b.length<=4294967296):Al7 (b,())=some (sha b,()):=by
 unfold Al7 A5r sha
 simp only[Af,Ag,Aa]
 by_cases h:b.length<=1048576
 .have hp:=Bcs b.length
  have hk:Akt b.length=(64-(b.length+9)%64)%64:=rfl
  have hc:=Amh _ Gl b (Nat.le_refl _) zq7
  have h8:Gl.length=8:=rfl
  have hc21:=hc.2.1
  have hc1:=hc.1
  have e1:Akl (Gl,[],0,()) (b,())=some ((Ie Gl b).1,(Ie Gl b).2,(b.length:Int),()):=by
   unfold Akl Aj1
   simp only[Af,Aj,Ag,Aa,List.nil_append,List.length_nil,Nat.zero_add]
   rw[Bct _ zq7,Ae,show Au9 (Gl,[],0,())=true by decide]
   simp only[Bool.not_true,An]
   rw[w64 (n:=1048576-0) zq0,Bq zq0,An,Hn _ zq5 zq3,Ae,show cat [([],()),(b,())]=b by simp[cat],Ase _ _ zq7 zq0,Ae]
   simp only
   rw[Al zq0,Ba,Cg _ zq2,Ae,w64 zq0]
   simp
  have e2:Akm ((Ie Gl b).1,(Ie Gl b).2,(b.length:Int),())=some (Aai (Ie Gl (b++Aah b.length)).1,()):=by
   unfold Akm Aj2
   simp only[Af,Aj,Ag,Aa]
   rw[Bct _ (by dsimp only;rw[hc.2.1];decide),Ae]
   have ok:Au9 ((Ie Gl b).1,(Ie Gl b).2,(b.length:Int),())=true:=by
    unfold Au9
    simp only[hc.2.2 Bl9,hc.2.1,Bool.and_eq_true]
    refine⟨by decide,Bj.2 zq0,?_⟩
    rw[hc.1];simp
   rw[ok]
   simp only[Bool.not_true,An]
   rw[Bs8 _ h,Ae,Hn _ zq5 zq3,Ae,show cat [((Ie Gl b).2,()),(Aah b.length,())]=(Ie Gl b).2++Aah b.length by simp[cat],Ase _ _ (by rw[hc.2.1];decide) zq1,Ae,<-Boo _ _ _ _ (Nat.le_refl _)]
   simp only
   rw[Bf6 _ (by rw[(Amh _ Gl _ (Nat.le_refl _) zq7).2.1];decide)]
   rfl
  rw[Bq zq0,An,show Ayr=some (Gl,[],0,())from rfl,Ae,e1,Ae,e2,Ae,if_pos h]
 .rw[Al zq0,A9,if_neg h]
theorem Br0 (b:List YB) (h:b.length<=1048576):(sha b).length=32:=by
 unfold sha
 rw[if_pos h,Aqe,(Amh _ Gl _ (Nat.le_refl _) zq7).2.1];rfl
theorem Ami (b:List YB):(sha b).length<=32:=by rcases Bhk b with h|h<;>omega
def Ava (k:List YB):List YB:=k++List.replicate (64-k.length) ((0:Int),())
def Gm (k:List YB):List YB:=Ava (if k.length>64 then sha k else k)
theorem Awn (k:List YB) (h:k.length<=64):Ax Hq (k,())=some (Ava k,()):=by
 have hr:=C0 (B:=Hq) (64-k.length) (fun i=>(k++List.replicate i ((0:Int),()),())) (Ava k,())
  (fun i hi=>by
   unfold Hq
   simp only[Af,Aj,Aa]
   rw[Al zq1,A9,Al zq1,Ba,List.append_assoc,<-List.replicate_succ'])
  (by
   unfold Hq
   simp only[Af,Aj,Aa]
   rw[Bq zq1,An];rfl)
 simpa using hr
theorem Bji (k:List YB) (h:k.length<=64):(Ava k).length=64:=by unfold Ava;simp;omega
theorem Ag0 (k:List YB):(Gm k).length=64:=by
 unfold Gm
 refine Bji _ ?_
 split
 .have:=Ami k;omega
 .omega
theorem Bjj (k:List YB) (h:k.length<=1048576):Agr (k,())=some (Gm k,()):=by
 unfold Agr Afy Gm
 simp only[Af,Ag,Aa]
 rw[Bq zq0,An,Cg _ zq2,Ae]
 by_cases h1:k.length>64
 .have:=Ami k
  rw[Al zq0,A9,Bjh _ zq0,Ae,Awn _ zq0,if_pos h1];rfl
 .rw[Bq zq0,An,Awn _ zq0,if_neg h1];rfl
theorem Bjk (k:List YB) (h:k.length<=1048576):Agg (k,())=some (Gm k,()):=by
 unfold Agg Aez Gm
 simp only[Af,Ag,Aa,Aj,List.nil_append,List.length_nil,Nat.zero_add]
 rw[Bq zq0,An,Al zq0,Ba,show Sv=Hq from rfl]
 by_cases h1:k.length>64
 .have:=Ami k
  rw[Al zq0,A9,Bjg,Ae,Awn _ zq0,if_pos h1];rfl
 .rw[Bq zq0,An,Awn _ zq0,if_neg h1];rfl
def A0x (x c:Int):YB:=(IntKind.u8.wrap ((BitVec.ofInt (IntKind.u8.bits) x ^^^ BitVec.ofInt (IntKind.u8.bits) c).toNat:Nat),())
def Fv (k:List YB) (c:Int):List YB:=k.map fun x=>A0x x.1 c
theorem Ap9 (k:List YB) (c:Int):(Fv k c).length=k.length:=by simp[Fv]
theorem Aku (k:List YB) (x:YB) (c:Int):Fv (k++[x]) c=Fv k c++[A0x x.1 c]:=by simp[Fv]
theorem Bcu (k:List YB) (c:Int) (h:k.length<=1048576):Ad4 (k,()) (c,())=some (Fv k c,()):=by
 have hr:=C0 (B:=Nx) k.length (fun i=>(c,Fv (k.take i) c,k,(k.length:Int),(i:Int),())) (Fv k c,())
  (fun i hi=>by
   have hx:=List.getElem?_eq_getElem hi
   unfold Nx
   simp only[Af,Ag,Aa,Aj,Dj hi,A9,Ca hx,Ae]
   rw[Al zq9,Ba,w64 zq0,<-E6 hx,Aku]
   rfl)
  (by unfold Nx;simp only[Af,Aa,Dk,An,List.take_length])
 unfold Ad4 Ao2
 simp only[Ag,Aa]
 rw[show Ax Nx (c,[],k,(k.length:Int),(0:Int),())=_ from hr]
 rfl
theorem Bqq (m k:List YB) (h:k.length=64):Ax Sw (m,k,[],[],(0:Int),())=some (m,Fv k 54,Fv k 92,()):=by
 have hr:=C0 (B:=Sw) 64 (fun i=>(m,k,Fv (k.take i) 54,Fv (k.take i) 92,(i:Int),())) (m,Fv k 54,Fv k 92,())
  (fun i hi=>by
   have hx:=List.getElem?_eq_getElem (show i<k.length by omega)
   unfold Sw
   simp only[Af,Ag,Aa,Aj]
   rw[Al zq0,A9,Ca hx]
   simp only[Ae]
   rw[Al zq9,Ba,Al zq9,Ba,w64 zq0,<-E6 hx,Aku,Aku]
   rfl)
  (by unfold Sw;simp only[Af,Aa,Ag,Aj];rw[Bq zq0,An,<-h,List.take_length])
 exact hr
def Hw (k m:List YB):List YB:=if k.length>1048576 then []else if m.length>1048512 then []else sha (Fv (Gm k) 92++sha (Fv (Gm k) 54++m))
theorem Amj (k m:List YB):Vp (k,()) (m,())=some (Hw k m,()):=by
 have hb:=Ag0 k
 unfold Vp Az6 Hw
 simp only[Af,Ag,Aa]
 by_cases h1:k.length>1048576
 .rw[Al zq0,A9,if_pos h1]
 rw[Bq zq0,An,if_neg h1]
 by_cases h2:m.length>1048512
 .rw[Al zq0,A9,if_pos h2]
 have hs:=Ami (Fv (Gm k) 54++m)
 rw[Bq zq0,An,if_neg h2,Bjj _ zq0,Ae,Bcu _ _ zq0,Ae,Bcu _ _ zq0,Ae,Hn _ (by simp[cat,Ap9];omega) zq3,Ae,
  show cat [(Fv (Gm k) 54,()),(m,())]=Fv (Gm k) 54++m by simp[cat],Bjh _ zq9,Ae,Hn _ (by simp[cat,Ap9];omega) zq3,Ae,
  show cat [(Fv (Gm k) 92,()),(sha (Fv (Gm k) 54++m),())]=Fv (Gm k) 92++sha (Fv (Gm k) 54++m) by simp[cat],Bjh _ zq9,Ae]
theorem Amk (k m:List YB):Vn (k,()) (m,())=some (Hw k m,()):=by
 have hb:=Ag0 k
 unfold Vn Azo Hw
 simp only[Af,Ag,Aa,Aj]
 by_cases h1:k.length>1048576
 .rw[Al zq0,A9,if_pos h1]
 rw[Bq zq0,An,if_neg h1]
 by_cases h2:m.length>1048512
 .rw[Al zq0,A9,if_pos h2]
 have hs:=Ami (Fv (Gm k) 54++m)
 rw[Bq zq0,An,if_neg h2,Bjk _ zq0,Ae,Bqq _ _ hb,Ae]
 simp only
 rw[Al zq9,Ba,Bjg,Ae,Al zq9,Ba,Bjg,Ae]
theorem Aqf (k m:List YB):(Hw k m).length=32\/(Hw k m).length=0:=by
 unfold Hw
 split
 .exact .inr rfl
 split
 .exact .inr rfl
 exact Bhk _
theorem Ob (k m:List YB) (h1:k.length<=1048576) (h2:m.length<=1048512):(Hw k m).length=32:=by
 have hb:=Ag0 k
 have hs:=Ami (Fv (Gm k) 54++m)
 unfold Hw
 rw[if_neg zq0,if_neg zq0]
 exact Br0 _ zq9
def T4 (k m:List YB):List YB:=(Hw k m).take 16
theorem Bap (k m:List YB):Aek (k,()) (m,())=some (T4 k m,()):=by
 unfold Aek A5s T4
 simp only[Af,Ag,Aa,Aj,Amj,Ae]
 rcases Aqf k m with h|h
 .rw[C6 (by simp[h]),Al zq0,Ba]
  simp only[show(16:Int).toNat=16 from rfl,show(0:Int).toNat=0 from rfl,List.drop_zero]
  rw[Cg _ zq1,Ae]
 .rw[Ei (by simp[h]),List.eq_nil_of_length_eq_zero h];rfl
theorem Baq (k m:List YB):Aej (k,()) (m,())=some (T4 k m,()):=by
 unfold Aej A5e T4
 simp only[Af,Ag,Aa,Aj,Amk,Ae,List.nil_append,List.length_nil,Nat.zero_add]
 rcases Aqf k m with h|h
 .rw[Bq zq0,An,Al zq0,Ba]
  simp only[show(16:Int).toNat=16 from rfl,show(0:Int).toNat=0 from rfl,List.drop_zero]
  rw[Al zq1,Ba]
 .rw[Al zq0,A9,List.eq_nil_of_length_eq_zero h];rfl
theorem Bhl (k m:List YB):(T4 k m).length<=16:=by unfold T4;simp;omega
def V9 (k n:List YB) (i:Int):List YB:=if inR i 0 6=true/\n.length<=100 then Hw k ((((115:Int),())::n)++Fh i 4 4)else []
theorem Bma (k n:List YB) (i:Int):Akp (k,()) (n,()) (i,())=some (V9 k n i,()):=by
 unfold Akp Aka V9
 simp only[Af,Ag,Aa,Cj,Ae]
 cases hi:inR i 0 6 with
 |false=>simp[br]
 |true=>
  simp only[Bool.not_true,An]
  by_cases hn:n.length<=100
  .rw[Bq zq0,An,Hn _ zq5 zq3,Ae,show cat [([((115:Int),())],()),(n,())]=((115:Int),())::n by simp[cat],Oa _ _ zq1,Ae,Amj,Ae,if_pos ⟨trivial,hn⟩]
  .rw[Al zq0,A9,if_neg (fun h=>hn h.2)]
theorem Bmb (k n:List YB) (i:Int):Akk (k,()) (n,()) (i,())=some (V9 k n i,()):=by
 unfold Akk Ajt V9
 simp only[Af,Ag,Aa,Aj,Cq,Ae]
 cases hi:inR i 0 6 with
 |false=>simp[br]
 |true=>
  simp only[Bool.not_true,An]
  by_cases hn:n.length<=100
  .rw[Bq zq0,An,Al zq1,Ba,K8 _ _ zq1,Ae,Amk,Ae,if_pos ⟨trivial,hn⟩];rfl
  .rw[Al zq0,A9,if_neg (fun h=>hn h.2)]
theorem Aqg (k n:List YB) (i:Int) (h0:0<=i) (h1:i<=6) (hn:n.length<=100) (hk:k.length<=1048576):(V9 k n i).length=32:=by
 unfold V9
 rw[if_pos ⟨Bj.2 ⟨h0,h1⟩,hn⟩]
 exact Ob _ _ hk zq4
def blocks (k n:List YB) (i:Nat):List YB:=(List.range i).flatMap fun(j:Nat)=>V9 k n (j:Int)
theorem Akv (k n:List YB) (i:Nat):blocks k n (i+1)=blocks k n i++V9 k n (i:Int):=by unfold blocks;rw[List.range_succ,List.flatMap_append];simp
theorem Xu (k n:List YB) (i:Nat) (h:i<=7) (hn:n.length<=100) (hk:k.length<=1048576):(blocks k n i).length=32*i:=by
 induction i with
 |zero=>rfl
 |succ i ih=>rw[Akv,List.length_append,ih zq0,Aqg _ _ _ zq0 zq0 hn hk];omega
def Jd (k n:List YB) (m:Nat):List YB:=(blocks k n ((m+31)/32)).take m
theorem A3x (k n:List YB) (m:Nat) (hm:m<=200) (hn:n.length<=100) (hk:k.length<=1048576):(Jd k n m).length=m:=by
 unfold Jd
 rw[List.length_take,Xu _ _ _ zq0 hn hk];omega
theorem Bop (k n:List YB) (m:Nat) (hm:m<=200) (hn:n.length<=100) (hk:k.length<=1048576):Ap1 (k,()) (n,()) ((m:Int),())=some (Jd k n m,()):=by
 have hbl:=Xu k n ((m+31)/32) zq0 hn hk
 have hr:=C0 (B:=Nz) ((m+31)/32) (fun i=>(k,n,(m:Int),blocks k n i,(i:Int),())) ((m:Int),blocks k n ((m+31)/32),())
  (fun i hi=>by
   have hl:=Xu k n i zq0 hn hk
   have hl2:=Aqg k n (i:Int) zq0 zq0 hn hk
   unfold Nz
   simp only[Af,Ag,Aa,Aj]
   rw[Al zq0,A9,Bma,Ae,Al zq2,Ba,w64 zq0,Akv]
   rfl)
  (by
   unfold Nz
   simp only[Af,Ag,Aa,Aj]
   rw[Bq zq0,An])
 unfold Ap1 Apa
 simp only[Af,Ag,Aa,Aj,Cj,Ae]
 rw[C6 zq8,Bq zq0,An,Bq zq0,An,show Ax Nz (k,n,(m:Int),[],(0:Int),())=_ from hr,Ae]
 simp only[Int.toNat_natCast,show(0:Int).toNat=0 from rfl,List.drop_zero]
 rw[Al zq0,Ba,Al zq0,Ba,Cg _ zq1,Ae]
 rfl
theorem Boq (k n:List YB) (m:Nat) (hm:m<=200) (hn:n.length<=100) (hk:k.length<=1048576):Aps (k,()) (n,()) ((m:Int),())=some (Jd k n m,()):=by
 have hbl:=Xu k n ((m+31)/32) zq0 hn hk
 have hr:=C0 (B:=Ns) ((m+31)/32) (fun i=>(k,n,(m:Int),blocks k n i,(i:Int),())) ((m:Int),blocks k n ((m+31)/32),())
  (fun i hi=>by
   have hl:=Xu k n i zq0 hn hk
   have hl2:=Aqg k n (i:Int) zq0 zq0 hn hk
   unfold Ns
   simp only[Af,Ag,Aa,Aj]
   rw[Al zq0,A9,Bmb,Ae,Al zq2,Ba,w64 zq0,Akv]
   rfl)
  (by
   unfold Ns
   simp only[Af,Ag,Aa,Aj]
   rw[Bq zq0,An])
 unfold Aps An8
 simp only[Af,Ag,Aa,Aj,Cq,Ae]
 rw[C6 zq8,Bq zq0,An,Bq zq0,An,show Ax Ns (k,n,(m:Int),[],(0:Int),())=_ from hr,Ae]
 simp only[Int.toNat_natCast,show(0:Int).toNat=0 from rfl,List.drop_zero,List.nil_append,List.length_nil,Nat.zero_add]
 rw[Al zq0,Ba,Al zq0,Ba,Al zq1,Ba]
 rfl
def Ag1 (st p:List YB) (i:Nat):List YB:=(List.range i).map fun j=>A0x (st[j]?.getD (0,())).1 (p[j]?.getD (0,())).1
theorem A8f (st p:List YB) (i:Nat):Ag1 st p (i+1)=Ag1 st p i++[A0x (st[i]?.getD (0,())).1 (p[i]?.getD (0,())).1]:=by unfold Ag1;rw[List.range_succ,List.map_append];rfl
theorem Aqh (st p:List YB) (i:Nat):(Ag1 st p i).length=i:=by simp[Ag1]
def mix (k n p:List YB):List YB:=if p.length<=200/\n.length<=100/\k.length<=1048576 then Ag1 (Jd k n p.length) p p.length else []
theorem Avb (k n p:List YB):(mix k n p).length<=p.length:=by
 unfold mix
 split
 .rw[Aqh];exact Nat.le_refl _
 .simp
theorem Bqf (k n p:List YB):Awk (k,()) (n,()) (p,())=some (mix k n p,()):=by
 unfold Awk A5u mix
 simp only[Af,Ag,Aa]
 by_cases h1:p.length<=200
 .rw[Bq zq0,An]
  by_cases h2:n.length<=100
  .rw[Bq zq0,An]
   by_cases h3:k.length<=1048576
   .have hs:=A3x k n p.length h1 h2 h3
    have hr:=C0 (B:=V5) p.length (fun i=>(p,Ag1 (Jd k n p.length) p i,Jd k n p.length,((Jd k n p.length).length:Int),(i:Int),())) (Ag1 (Jd k n p.length) p p.length,())
     (fun i hi=>by
      have hx:=List.getElem?_eq_getElem hi
      have hy:=List.getElem?_eq_getElem (show i<(Jd k n p.length).length by omega)
      unfold V5
      simp only[Af,Ag,Aa,Aj]
      rw[Al zq0,A9,Ca hy,Ae,Ca hx,Ae,Al (by simp[Aqh];omega),Ba,w64 zq0,A8f,hx,hy]
      rfl)
     (by
      unfold V5
      simp only[Af,Ag,Aa,Aj]
      rw[Bq zq0,An])
    rw[Bq zq0,An,Bop _ _ _ h1 h2 h3,Ae,if_pos ⟨h1,h2,h3⟩]
    simp only
    rw[show Ax V5 (p,[],Jd k n p.length,((Jd k n p.length).length:Int),(0:Int),())=_ from hr]
    rfl
   .rw[Al zq0,A9,if_neg zq0]
  .rw[Al zq0,A9,if_neg zq0]
 .rw[Al zq0,A9,if_neg zq0]
theorem Bmc (a b:Int):A0x a b=A0x b a:=by unfold A0x;rw[BitVec.xor_comm]
theorem Bqg (k n p:List YB):Awj (k,()) (n,()) (p,())=some (mix k n p,()):=by
 unfold Awj A5f mix
 simp only[Af,Ag,Aa]
 by_cases h1:p.length<=200
 .rw[Bq zq0,An]
  by_cases h2:n.length<=100
  .rw[Bq zq0,An]
   by_cases h3:k.length<=1048576
   .have hs:=A3x k n p.length h1 h2 h3
    have hr:=C0 (B:=V4) p.length (fun i=>(p,Ag1 (Jd k n p.length) p i,Jd k n p.length,(i:Int),())) (Ag1 (Jd k n p.length) p p.length,())
     (fun i hi=>by
      have hx:=List.getElem?_eq_getElem hi
      have hy:=List.getElem?_eq_getElem (show i<(Jd k n p.length).length by omega)
      unfold V4
      simp only[Af,Ag,Aa,Aj]
      rw[Al zq0,A9,Ca hx,Ae,Ca hy,Ae,Al (by simp[Aqh];omega),Ba,w64 zq0,A8f,hx,hy]
      rw[Bmc]
      rfl)
     (by
      unfold V4
      simp only[Af,Ag,Aa,Aj]
      rw[Bq zq0,An])
    rw[Bq zq0,An,Boq _ _ _ h1 h2 h3,Ae,if_pos ⟨h1,h2,h3⟩]
    simp only
    rw[show Ax V4 (p,[],Jd k n p.length,(0:Int),())=_ from hr]
    rfl
   .rw[Al zq0,A9,if_neg zq0]
  .rw[Al zq0,A9,if_neg zq0]
 .rw[Al zq0,A9,if_neg zq0]
def Hs (r:Int) (sn:List YB) (ep seq:Int):Bool:=inR r 0 1 && (((sn.length:Int)==12) && (inR ep 0 4294967295 && inR seq 0 281474976710655))
def Eg (r:Int) (sn:List YB) (ep seq:Int):List YB:=bif Hs r sn ep seq then(IntKind.u8.wrap r,())::(sn++(Fh ep 4 4++Fh seq 6 6))else []
theorem A0y (r:Int) (sn:List YB) (ep seq:Int):Xm (r,()) (sn,()) (ep,()) (seq,())=some (Eg r sn ep seq,()):=by
 unfold Xm Ao9 Eg Hs
 simp only[Af,Ag,Aa,Aaa,Hr,Cj,Ae,Aem]
 cases inR r 0 1 with
 |false=>rfl
 |true=>
  cases hs:((sn.length:Int)==12)with
  |false=>rfl
  |true=>
   have hs':sn.length=12:=by simp at hs;omega
   cases inR ep 0 4294967295 with
   |false=>rfl
   |true=>
    cases inR seq 0 281474976710655 with
    |false=>rfl
    |true=>
     simp only[Bool.not_true,An,Bool.and_true,cond_true]
     rw[Oa _ _ zq3,Ae,A58 _ _ zq3,Ae,Hn _ zq6 zq3,Ae]
     simp[cat]
theorem Aqi (r:Int) (sn:List YB) (ep seq:Int):Tf (r,()) (sn,()) (ep,()) (seq,())=some (Eg r sn ep seq,()):=by
 unfold Tf An7 Eg Hs
 simp only[Af,Ag,Aa,Aj,Cq,Ae,bne]
 cases inR r 0 1 with
 |false=>rfl
 |true=>
  cases hs:((sn.length:Int)==12)with
  |false=>rfl
  |true=>
   have hs':sn.length=12:=by simp at hs;omega
   cases inR ep 0 4294967295 with
   |false=>rfl
   |true=>
    cases inR seq 0 281474976710655 with
    |false=>rfl
    |true=>
     simp only[Bool.not_true,An,Bool.and_true,cond_true]
     rw[Al zq1,Ba,K8 _ _ zq1,Ae,Bhh _ _ zq4,Ae]
     simp
theorem Oo (r:Int) (sn:List YB) (ep seq:Int):(Eg r sn ep seq).length=(bif Hs r sn ep seq then 23 else 0):=by
 unfold Eg
 cases h:Hs r sn ep seq with
 |false=>rfl
 |true=>
  unfold Hs at h
  simp at h
  have:sn.length=12:=by omega
  simp[Gb,this]
def Dy (r:Int) (f:Aq):List YB:=bif inR r 0 1 && (B6 f && inR f.1 4 8)then((116:Int),())::(Eg r f.2.2.2.1 f.2.2.2.2.2.2.2.1 f.2.2.2.2.2.2.2.2.1++((IntKind.u8.wrap f.1,())::f.2.2.2.2.2.2.2.2.2.1))else []
theorem Tm (r:Int) (f:Aq) (h:Ar f<=536870912):Lj (r,()) f=some (Dy r f,()):=by
 have hh:=Oo r f.2.2.2.1 f.2.2.2.2.2.2.2.1 f.2.2.2.2.2.2.2.2.1
 simp only[Ar]at h
 unfold Lj Af7 Dy
 simp only[Af,Ag,Aa,Aaa,Aaf,Ms,Ae,Aem,A0y]
 cases inR r 0 1 with
 |false=>rfl
 |true=>
  cases inR f.1 4 8 with
  |false=>cases B6 f<;>rfl
  |true=>
   cases B6 f with
   |false=>rfl
   |true=>
    have hle:(Eg r f.2.2.2.1 f.2.2.2.2.2.2.2.1 f.2.2.2.2.2.2.2.2.1).length<=23:=by rw[hh];cases Hs r f.2.2.2.1 f.2.2.2.2.2.2.2.1 f.2.2.2.2.2.2.2.2.1<;>simp
    simp only[Bool.not_true,An,Bool.and_true,cond_true]
    rw[Hn _ zq5 zq3,Ae]
    simp[cat]
theorem Xv (r:Int) (f:Aq) (h:Ar f<=536870912):Li (r,()) f=some (Dy r f,()):=by
 have hh:=Oo r f.2.2.2.1 f.2.2.2.2.2.2.2.1 f.2.2.2.2.2.2.2.2.1
 simp only[Ar]at h
 unfold Li Afc Dy
 simp only[Af,Ag,Aa,Aj,Cq,Aag,Jc,Ae,Aqi]
 cases inR r 0 1 with
 |false=>rfl
 |true=>
  cases B6 f with
  |false=>rfl
  |true=>
   cases inR f.1 4 8 with
   |false=>rfl
   |true=>
    have hle:(Eg r f.2.2.2.1 f.2.2.2.2.2.2.2.1 f.2.2.2.2.2.2.2.2.1).length<=23:=by rw[hh];cases Hs r f.2.2.2.1 f.2.2.2.2.2.2.2.1 f.2.2.2.2.2.2.2.2.1<;>simp
    simp only[Bool.not_true,An,Bool.and_true,cond_true]
    rw[Al zq1,Ba,Al zq1,Ba,Al zq1,Ba]
    simp
def P0:List YB:=List.replicate 16 ((0:Int),())
def Mt (k:List YB) (r:Int) (sn:List YB) (ep seq kind:Int) (p:List YB):Bool:=((k.length:Int)==32) && (Hs r sn ep seq && (inR kind 4 8 && Jb kind (p.length:Int)))
def Ht:Aq:=(0,0,[],[],0,[],[],0,0,[],[],())
def Gn (k:List YB) (r:Int) (sn:List YB) (ep seq kind:Int) (p:List YB):Aq×(Bool×Unit):=
 bif Mt k r sn ep seq kind p then((kind,0,[],sn,0,[],[],ep,seq,mix k (Eg r sn ep seq) p,T4 k (Dy r (kind,0,[],sn,0,[],[],ep,seq,mix k (Eg r sn ep seq) p,P0,())),()),(true,()))else(Ht,(false,()))
theorem Br1 (sn:List YB) (ep seq kind:Int) (p:List YB) (hk:inR kind 4 8=true):B6 (kind,0,[],sn,0,[],[],ep,seq,p,P0,())=(((sn.length:Int)==12) && (inR ep 0 4294967295 && (inR seq 0 281474976710655 && Jb kind (p.length:Int)))):=by
 unfold B6
 simp only[hk,cond_true]
 simp[P0]
theorem Bmd (k:List YB) (r:Int) (sn:List YB) (ep seq kind:Int) (p:List YB) (h1:sn.length<=67108864) (h2:p.length<=67108864):Agv (k,()) (r,()) (sn,()) (ep,()) (seq,()) (kind,()) (p,())=some (Gn k r sn ep seq kind p):=by
 have hm:=Avb k (Eg r sn ep seq) p
 unfold Agv A0h Gn Mt Hs
 simp only[Af,Ag,Aa]
 rw[Cg _ zq2,Ae,Cg _ zq2,Ae]
 simp only[Aaa,Aaf,Ms,Ae,Aem,bne]
 cases ((k.length:Int)==32)with
 |false=>rfl
 |true=>
  cases inR r 0 1 with
  |false=>rfl
  |true=>
   cases hk:inR kind 4 8 with
   |false=>simp[br];rfl
   |true=>
    simp only[Bool.not_true,An,Bool.true_and]
    rw[show List.replicate (16:Int).toNat ((0:Int),())=P0 from rfl,Br1 sn ep seq kind p hk,A0y,Ae,Bqf,Ae]
    simp only
    rw[Tm _ _ (by simp only[Ar];simp[P0];omega),Ae,Bap,Ae]
    cases ((sn.length:Int)==12)<;>cases inR ep 0 4294967295<;>cases inR seq 0 281474976710655<;>cases Jb kind (p.length:Int)<;>rfl
theorem Bjl (x:List YB) (r a b:Int) (n1 n2:List YB) (c:Int) (n3 n4:List YB) (d e:Int) (n5 n6:List YB) (kind f:Int) (n7 sn:List YB) (g:Int) (n8 n9:List YB) (ep seq:Int) (body:List YB):
  Ax Oz (x,r,(0:Int),a,b,n1,n2,c,n3,n4,d,e,n5,n6,kind,f,n7,sn,g,n8,n9,ep,seq,body,[],())=some (x,r,a,b,n1,n2,c,n3,n4,d,e,n5,n6,kind,f,n7,sn,g,n8,n9,ep,seq,body,P0,()):=by
 exact C0 (B:=Oz) 16 (fun i=>(x,r,(i:Int),a,b,n1,n2,c,n3,n4,d,e,n5,n6,kind,f,n7,sn,g,n8,n9,ep,seq,body,List.replicate i ((0:Int),()),())) _
  (fun i hi=>by
   unfold Oz
   simp only[Af,Aj,Aa]
   rw[Al zq0,A9,Al zq1,Ba,w64 zq0,<-List.replicate_succ']
   rfl)
  (by unfold Oz;simp only[Af,Aj,Aa];rfl)
theorem Bme (k:List YB) (r:Int) (sn:List YB) (ep seq kind:Int) (p:List YB) (h1:sn.length<=67108864) (h2:p.length<=67108864):Bz (k,()) (r,()) (sn,()) (ep,()) (seq,()) (kind,()) (p,())=some (Gn k r sn ep seq kind p):=by
 have hm:=Avb k (Eg r sn ep seq) p
 have hh:=Oo r sn ep seq
 unfold Bz An9 Gn Mt
 simp only[Af,Ag,Aa,Aj,List.nil_append,List.length_nil,Nat.zero_add]
 rw[Aqi,Ae]
 simp only[Aag,A0w,Ae,bne]
 cases ((k.length:Int)==32)with
 |false=>rfl
 |true=>
  cases hd:Hs r sn ep seq with
  |false=>
   rw[hd]at hh
   have e:((Eg r sn ep seq).length:Int)==0:=by rw[hh];rfl
   rw[e];rfl
  |true=>
   rw[hd]at hh
   have e:(((Eg r sn ep seq).length:Int)==0)=false:=by rw[hh];rfl
   rw[e]
   cases hk:inR kind 4 8 with
   |false=>rfl
   |true=>
    cases hb:Jb kind (p.length:Int)with
    |false=>rfl
    |true=>
     simp only[Bool.not_true,An,Bool.true_and,Bool.and_true,cond_true]
     rw[Al zq0,Ba,Bqg,Ae]
     simp only
     rw[Bjl,Ae]
     simp only
     rw[Xv _ _ (by simp only[Ar];simp[P0];omega),Ae,Baq,Ae]
theorem Bf7 (k:List YB) (r:Int) (sn:List YB) (ep seq kind:Int) (p:List YB):Ar (Gn k r sn ep seq kind p).1<=sn.length+p.length+32:=by
 have hm:=Avb k (Eg r sn ep seq) p
 have ht:=Bhl k (Dy r (kind,0,[],sn,0,[],[],ep,seq,mix k (Eg r sn ep seq) p,P0,()))
 unfold Gn
 cases Mt k r sn ep seq kind p<;>simp[Ar,Ht]
 omega
theorem Abr (r:Int) (f:Aq):(Dy r f).length<=Ar f+32:=by
 have hh:=Oo r f.2.2.2.1 f.2.2.2.2.2.2.2.1 f.2.2.2.2.2.2.2.2.1
 have hle:(Eg r f.2.2.2.1 f.2.2.2.2.2.2.2.1 f.2.2.2.2.2.2.2.2.1).length<=23:=by rw[hh];cases Hs r f.2.2.2.1 f.2.2.2.2.2.2.2.1 f.2.2.2.2.2.2.2.2.1<;>simp
 unfold Dy Ar
 cases (inR r 0 1 && (B6 f && inR f.1 4 8))<;>simp
 omega
theorem Avc (d:Db) (h:Ga d<=4294967296):Abo d=some d:=by
 simp only[Ga]at h
 unfold Abo Ajv
 simp only[Aj,Aa,List.length_nil,Nat.zero_add,List.nil_append]
 rw[Al h];rfl
theorem Bcv (d:Db) (h:Ga d<=4294967296):Apq d=some d:=Avc d h
theorem A0z (d:YEp) (h:Cu d<=4294967296):Tg d=some d:=by
 simp only[Cu]at h
 unfold Tg Aod
 simp (disch:=first|omega|(dsimp only;omega)|(simp only[Ga];omega)) only[Ag,Aa,Cg,Avc,Ae]
theorem Aqj (d:YEp) (h:Cu d<=4294967296):Te d=some d:=by
 simp only[Cu]at h
 unfold Te Any
 simp (disch:=first|omega|(dsimp only;omega)|(simp only[Ga];omega)) only[Ag,Aj,Aa,Bcv,Ae,List.length_nil,Nat.zero_add,List.nil_append,Al,Ba]
theorem Bqr (d:YEp) (b:Bool×Unit) (h:Cu d<=4294967296):Aut d b=some d:=by
 have h':=h
 simp only[Cu]at h
 unfold Aut Atf
 simp (disch:=first|omega|(dsimp only;omega)) only[Af,Ag,Aj,Aa,Aqj,Ae,List.length_nil,Nat.zero_add,List.nil_append,Al,Ba]
 cases b.1<;>rfl
theorem Tn (d:Ap) (h:A6 d<=4294967296):H5 d=some d:=by
 simp only[A6]at h
 unfold H5 Afh
 simp (disch:=first|omega|(dsimp only;omega)|(simp only[Cu];omega)) only[Ag,Aj,Aa,Cg,A0z,Ae]
theorem R9 (d:Ap) (h:A6 d<=4294967296):Iz d=some d:=by
 simp only[A6]at h
 unfold Iz Ajn
 simp (disch:=first|omega|(dsimp only;omega)|(simp only[Cu];omega)) only[Ag,Aj,Aa,Aqj,Bqr,Ae,List.length_nil,Nat.zero_add,List.nil_append,Al,Ba]
theorem Ni (d:Bm) (h:Bb d<=4294967296):Fb d=some d:=by
 obtain⟨a,b,l,⟨⟩⟩:=d
 simp only[Bb]at h
 have hl:=C0 (B:=Jq) l.length (fun i=>(l,(l.length:Int),(i:Int),(0:Int),(0:Int),([]:List A8),a,b,l.take i,())) ((0:Int),(0:Int),([]:List A8),a,b,l,())
  (fun i hi=>by
   have hx:=List.getElem?_eq_getElem hi
   have h2:=Mg (f:=Fy) hx
   simp only[Fy]at h2
   unfold Jq
   simp only[Af,Ag,Aa,Aj,Dj hi,A9,Ca hx,Ae]
   rw[Cg _ zq2,Ae,Al zq1,Ba,w64 zq0]
   exact congrArg (fun t=>some (Sum.inl (l,(l.length:Int),(i:Int)+1,(0:Int),(0:Int),([]:List A8),a,b,t,()))) (E6 hx))
  (by unfold Jq;simp only[Af,Aa,Dk,An,List.take_length])
 unfold Fb Acu
 simp only[Ag,Aa]
 rw[show Ax Jq (l,(l.length:Int),(0:Int),(0:Int),(0:Int),([]:List A8),a,b,([]:List A8),())=_ from hl]
 rfl
theorem Ain (d:A8) (h:Fy d<=4294967296):Qk d=some d:=by
 simp only[Fy]at h
 unfold Qk Ajl
 simp only[Aj,Aa,List.length_nil,Nat.zero_add,List.nil_append]
 rw[Al h];rfl
theorem Wa (d:Bm) (h:Bb d<=4294967296):Ea d=some d:=by
 obtain⟨a,b,l,⟨⟩⟩:=d
 simp only[Bb]at h
 have hl:=C0 (B:=L0) l.length (fun i=>((i:Int),a,b,l,(0:Int),(0:Int),([]:List A8),a,b,l.take i,())) ((0:Int),(0:Int),([]:List A8),a,b,l,())
  (fun i hi=>by
   have hx:=List.getElem?_eq_getElem hi
   have h2:=Mg (f:=Fy) hx
   unfold L0
   simp only[Af,Ag,Aa,Aj,Dj hi,A9,Ca hx,Ae]
   rw[Ain _ zq0,Ae,Al zq1,Ba,w64 zq0]
   exact congrArg (fun t=>some (Sum.inl ((i:Int)+1,a,b,l,(0:Int),(0:Int),([]:List A8),a,b,t,()))) (E6 hx))
  (by unfold L0;simp only[Af,Aa,Dk,An,List.take_length])
 unfold Ea Ajm
 simp only[Ag,Aa]
 rw[show Ax L0 ((0:Int),a,b,l,(0:Int),(0:Int),([]:List A8),a,b,([]:List A8),())=_ from hl]
 rfl
theorem Mu (d:Ak) (h:A0 d<=4294967296):Ja d=some d:=by
 simp only[A0]at h
 unfold Ja Afi
 simp (disch:=first|omega|(dsimp only;omega)|(simp only[A6];omega)|(simp only[Bb];omega)) only[Ag,Aj,Aa,Cg,Tn,Ni,Ae]
theorem Ace (d:Ak) (h:A0 d<=4294967296):Nb d=some d:=by
 simp only[A0]at h
 unfold Nb Ajo
 simp (disch:=first|omega|(dsimp only;omega)|(simp only[A6];omega)|(simp only[Bb];omega)) only[Ag,Aj,Aa,R9,Wa,Ae,List.length_nil,Nat.zero_add,List.nil_append,Al,Ba]
theorem Aio (d:Ch) (h:Cd d<=4294967296):Qn d=some d:=by
 obtain⟨c,l,⟨⟩⟩:=d
 simp only[Cd]at h
 have hl:=C0 (B:=L8) l.length (fun i=>(l,(l.length:Int),(i:Int),(0:Int),([]:List Ak),c,l.take i,())) ((0:Int),([]:List Ak),c,l,())
  (fun i hi=>by
   have hx:=List.getElem?_eq_getElem hi
   have h2:=Mg (f:=A0) hx
   unfold L8
   simp only[Af,Ag,Aa,Aj,Dj hi,A9,Ca hx,Ae]
   rw[Mu _ zq0,Ae,Al zq1,Ba,w64 zq0]
   exact congrArg (fun t=>some (Sum.inl (l,(l.length:Int),(i:Int)+1,(0:Int),([]:List Ak),c,t,()))) (E6 hx))
  (by unfold L8;simp only[Af,Aa,Dk,An,List.take_length])
 unfold Qn Ajx
 simp only[Ag,Aa]
 rw[show Ax L8 (l,(l.length:Int),(0:Int),(0:Int),([]:List Ak),c,([]:List Ak),())=_ from hl]
 rfl
theorem Bmf (d:Ch) (h:Cd d<=4294967296):Akj d=some d:=by
 obtain⟨c,l,⟨⟩⟩:=d
 simp only[Cd]at h
 have hl:=C0 (B:=L3) l.length (fun i=>((i:Int),c,l,(0:Int),([]:List Ak),c,l.take i,())) ((0:Int),([]:List Ak),c,l,())
  (fun i hi=>by
   have hx:=List.getElem?_eq_getElem hi
   have h2:=Mg (f:=A0) hx
   unfold L3
   simp only[Af,Ag,Aa,Aj,Dj hi,A9,Ca hx,Ae]
   rw[Ace _ zq0,Ae,Al zq1,Ba,w64 zq0]
   exact congrArg (fun t=>some (Sum.inl ((i:Int)+1,c,l,(0:Int),([]:List Ak),c,t,()))) (E6 hx))
  (by unfold L3;simp only[Af,Aa,Dk,An,List.take_length])
 unfold Akj Ajp
 simp only[Ag,Aa]
 rw[show Ax L3 ((0:Int),c,l,(0:Int),([]:List Ak),c,([]:List Ak),())=_ from hl]
 rfl
def G6 (b:YBs):Bool:=inR (b.1.length:Int) 1 32
theorem Awo (b:YBs):V7 b=some (G6 b,()):=by
 unfold V7 Atz
 simp only[Ag,Aa,Cj,Ae];rfl
theorem Aaj (b:YBs):Rq b=some (G6 b,()):=by
 unfold Rq As4
 simp only[Ag,Aa,Cq,Ae];rfl
theorem A6a (b:YBs):Aib b=some ((b.1.length:Int)==32,()):=rfl
theorem Awp (b:YBs):Aur b=some ((b.1.length:Int)==32,()):=rfl
def Fw (d:Gc):Bool:=inR (d.1.length:Int) 1 32 && inR d.2.1 0 10000
theorem Bcw (d:Gc):Ad1 d=some (Fw d,()):=by
 unfold Ad1 Aoh
 simp only[Af,Ag,Aa,Cj,Ae,Rz];rfl
theorem Bcx (d:Gc):Adw d=some (Fw d,()):=by
 unfold Adw Am6
 simp only[Af,Ag,Aa,Cq,Ae,Rz];rfl
def Fd (s:Bs):Bool:=
 inR (s.1.length:Int) 1 9 && (((s.2.1.length:Int)==32) && (Fw (s.2.2.1,s.2.2.2.1,()) && (Hl (s.2.2.2.2.1,s.2.2.2.2.2.1,()) && (Ck s.2.2.2.2.2.2.1 &&
  (D3 (fun _ x=> !G6 x) s.1 && D3 (fun _ (x:Ak)=>decide (x.1>(s.1.length:Int))) s.2.2.2.2.2.1)))))
theorem A3y (s:Bs) (h:Bo s<=4294967296):Xk s=some (Fd s,()):=by
 obtain⟨ps,jar,sd,n,cap,ss,cr,⟨⟩⟩:=s
 simp only[Bo]at h
 have hl1:=Fk (B:=Ky) ps (fun i=>(ps,(ps.length:Int),(i:Int),ps,jar,sd,n,cap,ss,cr,())) (fun _ x=> !G6 x) (false,()) (ps,jar,sd,n,cap,ss,cr,())
  (fun i x hi hx=>by
   unfold Ky
   simp (disch:=omega) only[Af,Ag,Aa,Dj hi,A9,Ca hx,Ae,w64,Awo]
   rfl)
  (by unfold Ky;simp only[Af,Aa,Dk,An])
 have hl2:=Fk (B:=Jr) ss (fun i=>(ss,(ss.length:Int),(i:Int),ps,jar,sd,n,cap,ss,cr,())) (fun _ x=>decide (x.1>(ps.length:Int))) (false,()) ()
  (fun i x hi hx=>by
   unfold Jr
   simp (disch:=omega) only[Af,Ag,Aa,Dj hi,A9,Ca hx,Ae,w64]
   rfl)
  (by unfold Jr;simp only[Af,Aa,Dk,An])
 unfold Xk W0 Fd
 simp only[Af,Ag,Aa,E0,Cj,Ae,A6a,Bcw]
 rw[Amg _ (by simp only[Cd];omega),Uv _ zq0,show((0:Int))=((0:Nat):Int)from rfl,hl1]
 simp only[Ae]
 cases inR (ps.length:Int) 1 9 with
 |false=>rfl
 |true=>
  cases ((jar.length:Int)==32)with
  |false=>rfl
  |true=>
   cases Fw (sd,n,())with
   |false=>rfl
   |true=>
    cases Hl (cap,ss,())with
    |false=>rfl
    |true=>
     cases Ck cr with
     |false=>rfl
     |true=>
      cases D3 (fun _ x=> !G6 x) ps with
      |false=>rfl
      |true=>
       simp only[Bool.not_true,An,cond_true,sm]
       rw[hl2]
       cases D3 (fun _ (x:Ak)=>decide (x.1>(ps.length:Int))) ss<;>rfl
theorem A3z (s:Bs) (h:Bo s<=4294967296):Agi s=some (Fd s,()):=by
 obtain⟨ps,jar,sd,n,cap,ss,cr,⟨⟩⟩:=s
 simp only[Bo]at h
 have hl1:=Fk (B:=Ku) ps (fun i=>((i:Int),ps,jar,sd,n,cap,ss,cr,())) (fun _ x=> !G6 x) (false,()) (ps,jar,sd,n,cap,ss,cr,())
  (fun i x hi hx=>by
   unfold Ku
   simp (disch:=omega) only[Af,Ag,Aa,Dj hi,A9,Ca hx,Ae,w64,Aaj]
   rfl)
  (by unfold Ku;simp only[Af,Aa,Dk,An])
 have hl2:=Fk (B:=Kv) ss (fun i=>((i:Int),ps,jar,sd,n,cap,ss,cr,())) (fun _ x=>decide (x.1>(ps.length:Int))) (false,()) ()
  (fun i x hi hx=>by
   unfold Kv
   simp (disch:=omega) only[Af,Ag,Aa,Dj hi,A9,Ca hx,Ae,w64]
   rfl)
  (by unfold Kv;simp only[Af,Aa,Dk,An])
 unfold Agi Ws Fd
 simp only[Af,Ag,Aa,E0,Cq,Ae,Awp,Bcx]
 rw[Bhg _ (by simp only[Cd];omega),Kr _ zq0,show((0:Int))=((0:Nat):Int)from rfl,hl1]
 simp only[Ae]
 cases inR (ps.length:Int) 1 9 with
 |false=>rfl
 |true=>
  cases ((jar.length:Int)==32)with
  |false=>rfl
  |true=>
   cases Fw (sd,n,())with
   |false=>rfl
   |true=>
    cases Hl (cap,ss,())with
    |false=>rfl
    |true=>
     cases Ck cr with
     |false=>rfl
     |true=>
      cases D3 (fun _ x=> !G6 x) ps with
      |false=>rfl
      |true=>
       simp only[Bool.not_true,An,cond_true,sm]
       rw[hl2]
       cases D3 (fun _ (x:Ak)=>decide (x.1>(ps.length:Int))) ss<;>rfl
theorem Bcy {E:Type} {f:E->Nat}: ∀ {l:List E} {i:Nat} {x:E},Bu f (l.set i x)<=Bu f l+f x
 |[],_,_=>by simp[Bu]
 |a::r,0,x=>by simp only[List.set_cons_zero,Bu];omega
 |a::r,i+1,x=>by have:=Bcy (f:=f) (l:=r) (i:=i) (x:=x);simp only[List.set_cons_succ,Bu];omega
theorem A30 (t:Ch) (s:Ak) (h:Cd t+A0 s<=1073741824): ∃r b,Uu t s=some (r,(b,()))/\Qm t s=some (r,(b,()))/\Cd r<=Cd t+A0 s+1:=by
 unfold Uu Abl Qm Ajr
 simp only[Af,Ag,Aa,Aj]
 have hl:t.2.1.length<=Cd t:=by simp only[Cd];omega
 rw[Aio t zq0,Bmf t zq0,Amg t zq0,Bhg t zq0,Mu s zq0,Ace s zq0,R7 s zq0,Aac s zq0,Aad _ _ zq0,Bcl _ _ zq0,Au7 _ zq0,Bl0 _ zq0]
 simp only[Ae]
 cases Hl t with
 |false=>exact⟨t,1,rfl,rfl,by omega⟩
 |true=>
  cases Cs s with
  |false=>exact⟨t,1,rfl,rfl,by omega⟩
  |true=>
   simp only[Bool.not_true,An]
   cases s.2.2.2.2.2.2.2.2.2.2.2.2.2.2.2.2.2.2.2.2.2.2.2.1 with
   |true=>exact⟨t,1,rfl,rfl,by omega⟩
   |false=>
    simp only[An]
    cases decide (Fl t.2.1 s.2.2.1≥0)with
    |true=>exact⟨t,3,rfl,rfl,by omega⟩
    |false=>
     simp only[An]
     cases C9 t==t.1 with
     |true=>exact⟨t,7,rfl,rfl,by omega⟩
     |false=>
      simp only[An]
      cases (t.2.1.length:Int)==12 with
      |true=>exact⟨t,7,rfl,rfl,by omega⟩
      |false=>
       simp only[An]
       rw[Al zq1,Ba]
       refine⟨_,0,rfl,rfl,?_⟩
       simp only[Cd,Sa,Bu,List.length_append,List.length_cons,List.length_nil]
       omega
def Nj (k l:List YB):List YB×Bool:=if l.length<=100/\k.length<=1048576 then(Hw k (l++[((1:Int),())]),true)else([],false)
theorem Bjm (k l:List YB):Ap0 (k,()) (l,()) ((32:Int),())=some (((Nj k l).1,()),((Nj k l).2,())):=by
 unfold Ap0 Ao5 Nj
 simp only[Af,Ag,Aa,Aj,Cj,Ae]
 rw[C6 zq7]
 by_cases hl:l.length<=100
 .rw[Bq zq0,An]
  by_cases hk:k.length<=1048576
  .rw[Bq zq0,An,if_pos ⟨hl,hk⟩]
   have h32:(Hw k (l++[((1:Int),())])).length=32:=Ob _ _ hk zq1
   have e1:Ny (k,l,(32:Int),[],[],(1:Int),())=some (.inl (k,l,(32:Int),Hw k (l++[((1:Int),())]),Hw k (l++[((1:Int),())]),(2:Int),())):=by
    unfold Ny
    simp only[Af,Ag,Aa,Aj]
    rw[Al zq3,A9,Hn _ zq5 zq3,Ae,show cat [([],()),(l,()),([(IntKind.u8.wrap 1,())],())]=l++[((1:Int),())] by simp[cat];rfl,Amj,Ae,Al (by dsimp only[List.length_nil];omega),Ba,List.nil_append]
    rfl
   have e2:Ny (k,l,(32:Int),Hw k (l++[((1:Int),())]),Hw k (l++[((1:Int),())]),(2:Int),())=some (.inr ((32:Int),Hw k (l++[((1:Int),())]),())):=by
    unfold Ny
    simp only[Af,Ag,Aa,Aj]
    rw[Bq zq0,An]
   rw[Ed,e1]
   simp only
   rw[Ed,e2]
   simp only[Ae]
   rw[Al zq0,Ba,Al zq0,Ba,show(32:Int).toNat=32 from rfl,show(0:Int).toNat=0 from rfl,List.drop_zero,List.take_of_length_le zq0,Cg _ zq2,Ae]
  .rw[Al zq0,A9,if_neg (fun h=>hk h.2)]
 .rw[Al zq0,A9,if_neg (fun h=>hl h.1)]
theorem Bjn (k l:List YB):Apn (k,()) (l,()) ((32:Int),())=some (((Nj k l).1,()),((Nj k l).2,())):=by
 unfold Apn Am8 Nj
 simp only[Af,Ag,Aa,Aj,Cq,Ae,List.nil_append,List.length_nil,Nat.zero_add]
 rw[C6 zq7]
 by_cases hl:l.length<=100
 .rw[Bq zq0,An]
  by_cases hk:k.length<=1048576
  .rw[Bq zq0,An,if_pos ⟨hl,hk⟩]
   have h32:(Hw k (l++[((1:Int),())])).length=32:=Ob _ _ hk zq1
   have e1:Np (k,l,(32:Int),[],[],(1:Int),())=some (.inl (k,l,(32:Int),Hw k (l++[((1:Int),())]),Hw k (l++[((1:Int),())]),(2:Int),())):=by
    unfold Np
    simp only[Af,Ag,Aa,Aj,List.nil_append,List.length_nil,Nat.zero_add]
    rw[Al zq3,A9,Al zq0,Ba,Al zq0,Ba,Al zq1,Ba,show(IntKind.u8.wrap 1:Int)=1 from rfl,Amk,Ae,Al zq2,Ba]
    rfl
   have e2:Np (k,l,(32:Int),Hw k (l++[((1:Int),())]),Hw k (l++[((1:Int),())]),(2:Int),())=some (.inr ((32:Int),Hw k (l++[((1:Int),())]),())):=by
    unfold Np
    simp only[Af,Ag,Aa,Aj]
    rw[Bq zq0,An]
   rw[Ed,e1]
   simp only
   rw[Ed,e2]
   simp only[Ae]
   rw[Al zq0,Ba,Al zq0,Ba,show(32:Int).toNat=32 from rfl,show(0:Int).toNat=0 from rfl,List.drop_zero,List.take_of_length_le zq0,Al zq0,Ba]
  .rw[Al zq0,A9,if_neg (fun h=>hk h.2)]
 .rw[Al zq0,A9,if_neg (fun h=>hl h.1)]
def Ge (k l:List YB):List YB:=(Nj k l).1
theorem Aqk (k l:List YB):(Ge k l).length=32\/(Ge k l).length=0:=by
 unfold Ge Nj
 split
 .exact Aqf _ _
 .right;rfl
theorem A00 (k:List YB) (b:ByteArray) (h:b.size<=4294967296):Mp (k,()) (b,())=some (Ge k (Kd b),()):=by
 unfold Mp Ao6
 simp only[Ag,Aa,Aj]
 rw[Al h,Ba,Bjm,Ae];rfl
theorem Aql (k:List YB) (b:ByteArray) (h:b.size<=4294967296):Do (k,()) (b,())=some (Ge k (Kd b),()):=by
 unfold Do Am9
 simp only[Ag,Aa,Aj]
 rw[Al h,Ba,Bjn,Ae];rfl
def P3:List YB:=Kd (Dd [114,101,107,101,121])
def Bcz:List YB:=Kd (Dd [101,112,111,99,104])
theorem A8g (k:List YB):Mp (k,()) (Dd [114,101,107,101,121],())=some (Ge k P3,()):=A00 k _ zq7
theorem Aip (k:List YB):Do (k,()) (Dd [114,101,107,101,121],())=some (Ge k P3,()):=Aql k _ zq7
theorem Bmg (k:List YB):Mp (k,()) (Dd [101,112,111,99,104],())=some (Ge k Bcz,()):=A00 k _ zq7
theorem Bmh (k:List YB):Do (k,()) (Dd [101,112,111,99,104],())=some (Ge k Bcz,()):=Aql k _ zq7
def Aml (k:List YB):Nat->List YB
 |0=>k
 |n+1=>Ge (Aml k n) P3
def Amm (k:List YB) (n:Int):List YB:=if 0<=n/\n<=64 then Aml k n.toNat else []
theorem Bqs (k:List YB) (n:Int) (h:k.length<=4294967296):Auz (k,()) (n,())=some (Amm k n,()):=by
 unfold Auz Aue Amm
 simp only[Af,Ag,Aa,Cj,Ae]
 by_cases hn:0<=n/\n<=64
 .obtain⟨m,rfl⟩:=Int.eq_ofNat_of_zero_le hn.1
  have hr:=C0 (B:=Qi) m (fun i=>((m:Int),Aml k i,(i:Int),())) (Aml k m,())
   (fun i hi=>by
    unfold Qi
    simp only[Af,Ag,Aa]
    rw[Al zq0,A9,A8g,Ae,w64 zq0]
    rfl)
   (by
    unfold Qi
    simp only[Af,Ag,Aa]
    rw[Bq zq0,An])
  rw[C6 zq8,Cg _ h,Ae,if_pos hn]
  rw[show Ax Qi ((m:Int),k,(0:Int),())=_ from hr,Ae]
  rfl
 .rw[if_neg hn,Ei zq8]
theorem Bqt (k:List YB) (n:Int) (h:k.length<=4294967296):Aus (k,()) (n,())=some (Amm k n,()):=by
 unfold Aus As9 Amm
 simp only[Af,Ag,Aa,Aj,Cq,Ae,List.nil_append,List.length_nil,Nat.zero_add]
 by_cases hn:0<=n/\n<=64
 .obtain⟨m,rfl⟩:=Int.eq_ofNat_of_zero_le hn.1
  have hr:=C0 (B:=Qd) m (fun i=>((m:Int),Aml k i,(i:Int),())) (Aml k m,())
   (fun i hi=>by
    unfold Qd
    simp only[Af,Ag,Aa]
    rw[Al zq0,A9,Aip,Ae,w64 zq0]
    rfl)
   (by
    unfold Qd
    simp only[Af,Ag,Aa]
    rw[Bq zq0,An])
  rw[C6 zq8,Al h,Ba,if_pos hn]
  rw[show Ax Qd ((m:Int),k,(0:Int),())=_ from hr,Ae]
  rfl
 .rw[if_neg hn,Ei zq8]
def K9 (p a b:List YB):List YB:=if inR (p.length:Int) 1 32=true/\a.length=12/\b.length=12 then Hw (a++b) p else []
theorem Bmi (p a b:List YB):Ako (p,()) (a,()) (b,())=some (K9 p a b,()):=by
 unfold Ako Aj7 K9 Abp Abi
 simp only[Af,Ag,Aa,Awo,Hr,Ae,G6]
 cases inR (p.length:Int) 1 32 with
 |false=>rw[if_neg zq3];rfl
 |true=>
  simp only[Bool.not_true,An]
  by_cases h1:a.length=12
  .rw[C6 (by simp[h1])]
   by_cases h2:b.length=12
   .rw[C6 (by simp[h2]),Hn _ zq5 zq3,Ae,show cat [(a,()),(b,())]=a++b by simp[cat],Amj,if_pos ⟨trivial,h1,h2⟩];rfl
   .rw[Ei zq1,if_neg (fun h=>h2 h.2.2)]
  .rw[Ei zq1,if_neg (fun h=>h1 h.2.1)]
theorem Bmj (p a b:List YB):Aki (p,()) (a,()) (b,())=some (K9 p a b,()):=by
 unfold Aki Ajh K9 Abn Aa2
 simp only[Af,Ag,Aa,Aj,Aaj,Ae,G6,List.nil_append,List.length_nil,Nat.zero_add]
 cases inR (p.length:Int) 1 32 with
 |false=>rw[if_neg zq3];rfl
 |true=>
  simp only[Bool.not_true,An]
  by_cases h1:a.length=12
  .rw[C6 (by simp[h1])]
   by_cases h2:b.length=12
   .rw[C6 (by simp[h2]),Al zq0,Ba,Al zq0,Ba,Amk,if_pos ⟨trivial,h1,h2⟩];rfl
   .rw[Ei zq1,if_neg (fun h=>h2 h.2.2)]
  .rw[Ei zq1,if_neg (fun h=>h1 h.2.1)]
def Is (r:List YB):List YB:=if r.length=32 then Ge r Bcz else []
theorem Avd (r:List YB):(Is r).length=32\/(Is r).length=0:=by
 unfold Is
 split
 .exact Aqk _ _
 .right;rfl
theorem Bjo (r:List YB):Agt (r,())=some (Is r,()):=by
 unfold Agt Af5 Is
 simp only[Af,Ag,Aa,Bmg,Ae]
 by_cases h:r.length=32
 .rw[if_pos h,C6 (by simp[h])]
 .rw[if_neg h,Ei zq1]
theorem Bjp (r:List YB):Agj (r,())=some (Is r,()):=by
 unfold Agj Ae4 Is
 simp only[Af,Ag,Aa,Bmh,Ae]
 by_cases h:r.length=32
 .rw[if_pos h,C6 (by simp[h])]
 .rw[if_neg h,Ei zq1]
def Lm (p a b:List YB) (n:Int):List YB:=if (Is (K9 p a b)).length=0 then []else Amm (Is (K9 p a b)) n
theorem Bjq (p a b:List YB) (n:YI):Xl (p,()) (a,()) (b,()) n=some (Lm p a b n.1,()):=by
 have hf:=Avd (K9 p a b)
 unfold Xl Af6 Lm
 simp only[Af,Ag,Aa,Bmi,Bjo,Ae]
 by_cases h:(Is (K9 p a b)).length=0
 .rw[if_pos h,Ei (by simp[h])]
 .rw[if_neg h,C6 (by simp;intro e;rw[e]at h;exact h rfl),Bqs _ _ zq0];rfl
theorem Aee (p a b:List YB) (n:YI):Xe (p,()) (a,()) (b,()) n=some (Lm p a b n.1,()):=by
 have hf:=Avd (K9 p a b)
 unfold Xe Ae5 Lm
 simp only[Af,Ag,Aa,Bmj,Bjp,Ae]
 by_cases h:(Is (K9 p a b)).length=0
 .rw[if_pos h,Ei (by simp[h]),List.eq_nil_of_length_eq_zero h]
 .rw[if_neg h,C6 (by simp;intro e;rw[e]at h;exact h rfl),Bqt _ _ zq0];rfl
theorem Ag2:Adz=Ad5:=by
 have hr:=C0 (B:=Nq) 32 (fun i=>((i:Int),(0:Int),([]:List YI),(-1:Int),List.replicate i ((0:Int),()),())) ((0:Int),([]:List YI),(-1:Int),List.replicate 32 ((0:Int),()),())
  (fun i hi=>by
   unfold Nq
   simp only[Af,Aj,Aa]
   rw[Al zq0,A9,Al zq1,Ba,w64 zq0,List.replicate_succ']
   rfl)
  (by
   unfold Nq
   simp only[Af,Aj,Aa]
   rw[Bq zq0,An])
 unfold Adz Anp Ad5 Ao7
 simp only[Ag,Aa]
 rw[show Ax Nq ((0:Int),(0:Int),([]:List YI),(-1:Int),([]:List YI),())=_ from hr,Ae]
 rfl
def Acf:Db:=((-1:Int),List.replicate 32 ((0:Int),()),())
theorem Ag3:Ad5=some Acf:=rfl
theorem Aqm (n:YI) (k:YBs): ∃r,Ol n k=some r/\Fj n k=some r/\Cu r<=64:=by
 unfold Ol Ah7 Fj Ab0
 simp only[Af,Ag,Aa,Aj,Cj,Cq,Ae,Ag2,Ag3,List.nil_append,List.length_nil,Nat.zero_add]
 cases inR n.1 0 4294967295 with
 |false=>exact⟨_,rfl,rfl,by decide⟩
 |true=>
  simp only[Bool.not_true,An]
  by_cases h:k.1.length=32
  .have q:((k.1.length:Int) != 32)=false:=by simp[h]
   rw[q,Cg k zq0,Al zq0]
   simp only[An,Ae,Ba]
   refine⟨_,rfl,rfl,?_⟩
   simp only[Cu,Acf,List.length_replicate];omega
  .have q:((k.1.length:Int) != 32)=true:=by simp;omega
   rw[q]
   exact⟨_,rfl,rfl,by decide⟩
theorem Bjr (n:YI) (a k:YBs): ∃r,Ut n a k=some r/\He n a k=some r/\A6 r<=76:=by
 unfold Ut Abk He Ua
 simp only[Af,Ag,Aa,Aj,Aaa,Cq,Hr,Ae,Aem,List.nil_append,List.length_nil,Nat.zero_add]
 cases inR n.1 0 1 with
 |false=>exact⟨_,rfl,rfl,by decide⟩
 |true=>
  simp only[Bool.not_true,An]
  by_cases h1:a.1.length=12
  .have q1:((a.1.length:Int)==12)=true:=by simp[h1]
   have q2:((a.1.length:Int) != 12)=false:=by simp[h1]
   rw[q1,q2]
   simp only[Bool.not_true,An]
   by_cases h:k.1.length=32
   .have q:((k.1.length:Int) != 32)=false:=by simp[h]
    obtain⟨r,e1,e2,e3⟩:=Aqm ((0:Int),()) k
    rw[q,Cg a zq0,Al zq0,e1,e2]
    simp only[An,Ae,Ba]
    refine⟨_,rfl,rfl,?_⟩
    simp only[Cu]at e3
    simp only[A6,List.length_nil];omega
   .have q:((k.1.length:Int) != 32)=true:=by simp;omega
    rw[q]
    exact⟨_,rfl,rfl,by decide⟩
  .have q1:((a.1.length:Int)==12)=false:=by simp;omega
   have q2:((a.1.length:Int) != 12)=true:=by simp;omega
   rw[q1,q2]
   exact⟨_,rfl,rfl,by decide⟩
theorem Bjs (p:YBs) (n:YI) (a:A7) (f:Aq) (h:Ar f<=1073741824): ∃r,Abq p n a f=some r/\Kp p n a f=some r/\A0 r<=Ar f+76:=by
 have hn:f.2.2.1.length+f.2.2.2.1.length<=Ar f:=by simp only[Ar];omega
 obtain⟨c,e1,e2,e3⟩:=Bjr ((1:Int),()) (f.2.2.2.1,()) (Lm p.1 f.2.2.1 f.2.2.2.1 0,())
 unfold Abq Aj8 Kp Qe Auy Af4 Lg Ae7
 simp only[Af,Ag,Aa,Aj,Cj,Cq,Ae,Awo,Aaj,Iq,Ir,List.nil_append,List.length_nil,Nat.zero_add]
 rw[Ms f,Jc f,Ae,Ae]
 have z:A0 ((0:Int),([]:List (Int×Unit)),([]:List (Int×Unit)),(0:Int),([]:List (Int×Unit)),(0:Int),([]:List (Int×Unit)),(0:Int),(0:Int),([]:List (Int×Unit)),(0:Int),([]:List (Int×Unit)),(0:Int),(0:Int),([]:List (Int×Unit)),false,(0:Int),([]:List (Int×Unit)),(0:Int),(0:Int),([]:List (Int×Int×(List (Int×Unit))×Int×Unit)),(0:Int),(0:Int),false,())<=Ar f+76:=by
  simp only[A0,Bu,List.length_nil];omega
 cases G6 p with
 |false=>exact⟨_,rfl,rfl,z⟩
 |true=>
  cases inR n.1 0 1000000 with
  |false=>exact⟨_,rfl,rfl,z⟩
  |true=>
   cases Cn a with
   |false=>exact⟨_,rfl,rfl,z⟩
   |true=>
    cases hk:(f.1 != (3:Int))with
    |true=>cases B6 f<;>exact⟨_,rfl,rfl,z⟩
    |false=>
     cases B6 f with
     |false=>exact⟨_,rfl,rfl,z⟩
     |true=>
      simp only[Bool.not_true,An]
      rw[Cg _ zq2,Cg _ zq2,Al zq0,Ba,Al zq0,Ba]
      simp only[Ae]
      rw[show Xl p (f.2.2.1,()) (f.2.2.2.1,()) ((0:Int),())=some (Lm p.1 f.2.2.1 f.2.2.2.1 0,())from Bjq _ _ _ _,show Xe p (f.2.2.1,()) (f.2.2.2.1,()) ((0:Int),())=some (Lm p.1 f.2.2.1 f.2.2.2.1 0,())from Aee _ _ _ _]
      simp only[Ae]
      rw[e1,e2]
      simp only[Ae]
      refine⟨_,rfl,rfl,?_⟩
      simp only[A6]at e3
      simp only[A0,Bu,List.length_nil];omega
theorem Aqn (d:Aq) (h:Ar d<=4294967296):Ady d=some d:=by
 simp only[Ar]at h
 unfold Ady Ann
 simp (disch:=first|omega|(dsimp only;omega)) only[Aj,Aa,List.length_nil,Nat.zero_add,List.nil_append,Al,Ba]
def Aiq:List YB:=[((114:Int),()),((111:Int),()),((108:Int),()),((108:Int),())]
def Oc (s:List YB) (n:Int):List YB:=if inR (s.length:Int) 1 32=true/\inR n 0 10000=true then(Hw s (Aiq++Fh n 4 4)).take 12 else []
theorem Bjt (s:List YB) (n:Int):(Oc s n).length<=12:=by
 unfold Oc
 split
 .simp;omega
 .simp
theorem Bor (s:List YB) (n:Int):Apw (s,()) (n,())=some (Oc s n,()):=by
 unfold Apw Ao3 Oc
 simp only[Af,Ag,Aa,Aj,Cj,Ae]
 cases h1:inR (s.length:Int) 1 32 with
 |false=>rw[if_neg zq3];rfl
 |true=>
  cases inR n 0 10000 with
  |false=>rw[if_neg zq3];rfl
  |true=>
   have:=Bj.1 h1
   have h32:(Hw s (Aiq++Fh n 4 4)).length=32:=Ob _ _ zq0 (by simp[Gb,Aiq])
   simp only[Bool.not_true,An]
   rw[Oa _ _ zq3,Ae,Amj,Ae,if_pos ⟨trivial,trivial⟩,show([((114:Int),()),((111:Int),()),((108:Int),()),((108:Int),())]:List YB)=Aiq from rfl]
   rw[Al zq2,Ba,show(12:Int).toNat=12 from rfl,show(0:Int).toNat=0 from rfl,List.drop_zero,Cg _ zq1]
   rfl
theorem Bos (s:List YB) (n:Int):Apm (s,()) (n,())=some (Oc s n,()):=by
 unfold Apm Am7 Oc
 simp only[Af,Ag,Aa,Aj,Cq,Ae,List.length_nil,Nat.zero_add,List.nil_append]
 cases h1:inR (s.length:Int) 1 32 with
 |false=>rw[if_neg zq3];rfl
 |true=>
  cases inR n 0 10000 with
  |false=>rw[if_neg zq3];rfl
  |true=>
   have:=Bj.1 h1
   have h32:(Hw s (Aiq++Fh n 4 4)).length=32:=Ob _ _ zq0 (by simp[Gb,Aiq])
   simp only[Bool.not_true,An]
   rw[K8 _ _ zq3,Ae,Amk,Ae,if_pos ⟨trivial,trivial⟩,show([((114:Int),()),((111:Int),()),((108:Int),()),((108:Int),())]:List YB)=Aiq from rfl]
   rw[Al zq2,Ba,show(12:Int).toNat=12 from rfl,show(0:Int).toNat=0 from rfl,List.drop_zero,Al zq1,Ba]
theorem Bmk (d:Gc) (h:d.1.length<=4294967296):Akg d=some d:=by
 unfold Akg Ai8
 simp only[Aj,Aa,List.length_nil,Nat.zero_add,List.nil_append]
 rw[Al h];rfl
def Gy (d:Gc):Gc×List YB:=if Fw d=true/\d.2.1≠10000 then((d.1,d.2.1+1,()),Oc d.1 d.2.1)else(d,[])
theorem Bc0 (d:Gc):(Gy d).1.1=d.1:=by unfold Gy;split<;>rfl
theorem Bou (d:Gc):(Gy d).2.length<=12:=by
 unfold Gy
 split
 .exact Bjt _ _
 .simp
theorem Bml (d:Gc) (h:d.1.length<=4294967296):Apx d=some ((Gy d).1,((Gy d).2,())):=by
 unfold Apx Az8 Gy
 simp only[Af,Ag,Aa,Bcw,Bor]
 rw[Cg _ h]
 simp only[Ae]
 cases hd:Fw d with
 |false=>rw[if_neg zq3];rfl
 |true=>
  simp only[Bool.not_true,An]
  by_cases h1:d.2.1=10000
  .rw[Ei (by simp[h1]),if_neg (fun h=>h.2 h1)]
  .have:=Bj.1 (show inR d.2.1 0 10000=true by unfold Fw at hd;simp only[Bool.and_eq_true]at hd;exact hd.2)
   rw[C6 (by simp[h1]),if_pos ⟨trivial,h1⟩,w64 zq0]
theorem Bmm (d:Gc) (h:d.1.length<=4294967296):A0l d=some ((Gy d).1,((Gy d).2,())):=by
 unfold A0l Azp Gy
 simp only[Af,Ag,Aa,Bcx,Bos]
 rw[Bmk _ h]
 simp only[Ae]
 cases hd:Fw d with
 |false=>rw[if_neg zq3];rfl
 |true=>
  simp only[Bool.not_true,An]
  by_cases h1:d.2.1=10000
  .rw[Ei (by simp[h1]),if_neg (fun h=>h.2 h1)]
  .have:=Bj.1 (show inR d.2.1 0 10000=true by unfold Fw at hd;simp only[Bool.and_eq_true]at hd;exact hd.2)
   rw[C6 (by simp[h1]),if_pos ⟨trivial,h1⟩,w64 zq0]
def Xw (r:List YB):List YB:=if r.length=12 then Ge r (Kd (Dd [106,97,114]))else []
theorem Bju (r:List YB):(Xw r).length<=32:=by
 unfold Xw
 split
 .have:=Aqk r (Kd (Dd [106,97,114]));omega
 .simp
theorem Bc1 (r:List YB):Apo (r,())=some (Xw r,()):=by
 unfold Apo Ana Xw
 simp only[Af,Ag,Aa]
 rw[Aql _ _ zq7]
 by_cases h:r.length=12
 .rw[if_pos h,C6 (by simp[h])];rfl
 .rw[if_neg h,Ei zq1]
theorem Bjv (l:List YBs) (h:l.length+Bu Ey l<=4294967296):Ago (l,())=some (l,()):=by
 have hl:=C0 (B:=Kx) l.length (fun i=>(l.take i,l,(l.length:Int),(i:Int),())) (l,())
  (fun i hi=>by
   have hx:=List.getElem?_eq_getElem hi
   have h2:=Mg (f:=Ey) hx
   simp only[Ey]at h2
   unfold Kx
   simp only[Af,Ag,Aa,Aj,Dj hi,A9,Ca hx,Ae]
   rw[Cg _ zq0,Ae,Al zq1,Ba,w64 zq0]
   exact congrArg (fun t=>some (Sum.inl (t,l,(l.length:Int),(i:Int)+1,()))) (E6 hx))
  (by unfold Kx;simp only[Af,Aa,Dk,An,List.take_length])
 unfold Ago Afg
 simp only[Ag,Aa]
 rw[show Ax Kx ([],l,(l.length:Int),(0:Int),())=_ from hl]
 rfl
theorem A8h (l:List YBs) (h:l.length+Bu Ey l<=4294967296) (j sd:List YB) (n c:Int) (ss:List Ak):
  Ax Jo (l,(0:Int),[],[],[],(0:Int),(0:Int),[],[],[],j,sd,n,c,ss,[],())=some ([],[],[],(0:Int),(0:Int),[],[],l,j,sd,n,c,ss,[],()):=by
 have hl:=C0 (B:=Jo) l.length (fun i=>(l,(i:Int),[],[],[],(0:Int),(0:Int),[],[],l.take i,j,sd,n,c,ss,[],())) ([],[],[],(0:Int),(0:Int),[],[],l,j,sd,n,c,ss,[],())
  (fun i hi=>by
   have hx:=List.getElem?_eq_getElem hi
   have h2:=Mg (f:=Ey) hx
   simp only[Ey]at h2
   unfold Jo
   simp only[Af,Ag,Aa,Aj,Dj hi,A9,Ca hx,Ae,List.length_nil,Nat.zero_add,List.nil_append]
   rw[Al zq0,Ba,Al zq1,Ba,w64 zq0]
   exact congrArg (fun t=>some (Sum.inl (l,(i:Int)+1,[],[],[],(0:Int),(0:Int),[],[],t,j,sd,n,c,ss,[],()))) (E6 hx))
  (by unfold Jo;simp only[Af,Aa,Dk,An,List.take_length])
 exact hl
theorem Bmn (k:List YB) (r:Int) (sn:List YB) (ep seq kind:Int) (p:List YB):(Gn k r sn ep seq kind p).2.1=Mt k r sn ep seq kind p:=by
 unfold Gn
 cases Mt k r sn ep seq kind p<;>rfl
theorem Bov (r:Int) (sn:List YB) (ep seq:Int):(((Eg r sn ep seq).length:Int)==0)= !Hs r sn ep seq:=by
 rw[Oo]
 cases Hs r sn ep seq<;>rfl
def Ave (e:YEp):YEp:=(e.1,e.2.1,e.2.2.1+1,e.2.2.2.1,e.2.2.2.2.1,())
theorem Bqu {e:YEp} (h:Fs e=true) (hs:e.2.2.1≠281474976710656):Fs (Ave e)=true:=by
 unfold Fs at h ⊢
 simp only[Bool.and_eq_true,Bj,Ave]at h ⊢
 exact⟨h.1,h.2.1,⟨by omega,by omega⟩,h.2.2.2⟩
def EpS (e:YEp) (role:Int) (sn:List YB) (k:Int) (p:List YB) (e':YEp) (f:Aq) (c:Int):Prop:=
 Cu e'=Cu e/\Ar f<=sn.length+p.length+32/\(c≠0->e'=e)/\(c=0->Fs e=true/\Fs e'=true/\e'.1=e.1/\e'.2.1=e.2.1/\f=(Gn e.2.1 role sn e.1 e.2.2.1 k p).1/\Mt e.2.1 role sn e.1 e.2.2.1 k p=true)
theorem Bmo (e:YEp) (role:Int) (sn:List YB) (k:Int) (p:List YB) (h:Cu e+sn.length+p.length<=67108864):
  ∃(e':YEp) (f:Aq) (c:Int),Ap2 e (role,()) (sn,()) (k,()) (p,())=some (e',f,(c,()))/\Ap7 e (role,()) (sn,()) (k,()) (p,())=some (e',f,(c,()))/\EpS e role sn k p e' f c:=by
 have hn:=Bf7 e.2.1 role sn e.1 e.2.2.1 k p
 have he:Cu e=e.2.1.length+e.2.2.2.2.1.length:=rfl
 have none: ∀ {c:Int},c≠0-> ∃(e':YEp) (f:Aq) (c':Int),some (e,Ht,(c,()))=some (e',f,(c',()))/\some (e,Ht,(c,()))=some (e',f,(c',()))/\EpS e role sn k p e' f c':=fun {c} hc=>
  ⟨e,Ht,c,rfl,rfl,rfl,by simp[Ar,Ht],fun _=>rfl,fun h=>(hc h).elim⟩
 unfold Ap2 Apb Ap7 A3j
 simp only[Af,Ag,Aa]
 rw[A0z e zq0,Aqj e zq0,A3r e zq0,Bcj e]
 simp only[Ae]
 cases ho:Fs e with
 |false=>exact none (c:=1) zq7
 |true=>
  have hk:((e.2.1.length:Int)==32)=true:=by unfold Fs at ho;simp only[Bool.and_eq_true]at ho;exact ho.2.1
  have hseq:inR e.2.2.1 0 281474976710656=true:=by unfold Fs at ho;simp only[Bool.and_eq_true]at ho;exact ho.2.2.1
  rw[Bj]at hseq
  simp only[Bool.not_true,An]
  rw[Bmd _ _ _ _ _ _ _ zq0 zq0,Ae,Aqi,Ae,Aag,Ae,A0w,Ae]
  simp only[Bmn,Bov]
  unfold Mt
  rw[hk]
  simp only[Bool.true_and]
  cases hd:Hs role sn e.1 0 with
  |false=>exact none (c:=1) zq7
  |true=>
   cases hkd:inR k 4 8 with
   |false=>exact none (c:=1) zq7
   |true=>
    cases hb:Jb k (p.length:Int)with
    |false=>exact none (c:=1) zq7
    |true=>
     simp only[Bool.and_self,Bool.not_true,An]
     have fin:e.2.2.1≠281474976710656-> ∃(e':YEp) (f:Aq) (c':Int),some (Ave e,(Gn e.2.1 role sn e.1 e.2.2.1 k p).1,((0:Int),()))=some (e',f,(c',()))/\some (Ave e,(Gn e.2.1 role sn e.1 e.2.2.1 k p).1,((0:Int),()))=some (e',f,(c',()))/\EpS e role sn k p e' f c':=fun hs=>
      ⟨Ave e,_,0,rfl,rfl,rfl,hn,fun h=>(h rfl).elim,fun _=>⟨ho,Bqu ho hs,rfl,rfl,rfl,by
       unfold Mt
       rw[hk,hkd,hb]
       unfold Hs at hd ⊢
       simp only[Bool.and_eq_true,Bj,Bool.and_true]at hd ⊢
       exact⟨trivial,hd.1,hd.2.1,hd.2.2.1,by omega,by omega⟩⟩⟩
     rw[Bmd _ _ _ _ _ _ _ zq0 zq0,Bme _ _ _ _ _ _ _ zq0 zq0]
     simp only[Ae]
     have go:br (e.2.2.1==(281474976710656:Int)) (some (e,Ht,((5:Int),()))) (some ((e.1,e.2.1,(IntKind.i64.wrap (e.2.2.1+(1:Int))),e.2.2.2.1,e.2.2.2.2.1,()),(Gn e.2.1 role sn e.1 e.2.2.1 k p).1,((0:Int),())))=if e.2.2.1=281474976710656 then some (e,Ht,((5:Int),()))else some (Ave e,(Gn e.2.1 role sn e.1 e.2.2.1 k p).1,((0:Int),())):=by
      by_cases h5:e.2.2.1=281474976710656
      .rw[if_pos h5,Ei (by simp[h5])]
      .rw[if_neg h5,C6 (by simp[h5]),w64 zq0];rfl
     have fin2: ∃(e':YEp) (f:Aq) (c':Int),(if e.2.2.1=281474976710656 then some (e,Ht,((5:Int),()))else some (Ave e,(Gn e.2.1 role sn e.1 e.2.2.1 k p).1,((0:Int),())))=some (e',f,(c',()))/\(if e.2.2.1=281474976710656 then some (e,Ht,((5:Int),()))else some (Ave e,(Gn e.2.1 role sn e.1 e.2.2.1 k p).1,((0:Int),())))=some (e',f,(c',()))/\EpS e role sn k p e' f c':=by
      by_cases h5:e.2.2.1=281474976710656
      .rw[if_pos h5];exact none (c:=5) zq7
      .rw[if_neg h5];exact fin h5
     cases hk4:(k==(4:Int))with
     |false=>
      simp only[An]
      exact go▸fin2
     |true=>
      simp only[A9]
      by_cases h4:e.2.2.1≥281474976709656
      .rw[Al h4,A9];exact none (c:=4) zq7
      .rw[Bq h4,An]
       exact go▸fin2
def Gt (c:Ap) (e:YEp):Ap:=(c.1,c.2.1,e.1,e.2.1,e.2.2.1,e.2.2.2.1,e.2.2.2.2.1,c.2.2.2.2.2.2.2.1,c.2.2.2.2.2.2.2.2.1,c.2.2.2.2.2.2.2.2.2.1,c.2.2.2.2.2.2.2.2.2.2.1,c.2.2.2.2.2.2.2.2.2.2.2.1,c.2.2.2.2.2.2.2.2.2.2.2.2.1,c.2.2.2.2.2.2.2.2.2.2.2.2.2.1,c.2.2.2.2.2.2.2.2.2.2.2.2.2.2.1,())
theorem A31 {c:Ap} {e:YEp} (h:Ci c=true) (he:Fs e=true) (h1:e.1=c.2.2.1):Ci (Gt c e)=true:=by
 have e1:Lq (Gt c e)=e:=rfl
 have e2:Lr (Gt c e)=Lr c:=by
  unfold Lr
  have:(Gt c e).2.2.1=c.2.2.1:=h1
  simp only[this]
  rfl
 unfold Ci at h ⊢
 rw[e1,e2]
 simp only[Bool.not_not,Bool.and_eq_true]at h ⊢
 refine⟨h.1,h.2.1,he,h.2.2.2.1,?_⟩
 have:=h.2.2.2.2
 simp only[Gt,J4,h1]at this ⊢
 exact this
theorem Bc2 (c:Ap) (e:YEp) (h:Cu e=Cu (Lq c)):A6 (Gt c e)=A6 c:=by
 simp only[Cu,Lq]at h
 simp only[A6,Gt]
 omega
def ChS (c:Ap) (k:Int) (p:List YB) (c':Ap) (f:Aq) (z:Int):Prop:=
 ∃e':YEp,c'=Gt c e'/\A6 c'=A6 c/\Ar f<=A6 c+p.length+32/\(z≠0->c'=c)/\
  (z=0->Ci c=true/\Ci c'=true/\e'.1=c.2.2.1/\e'.2.1=c.2.2.2.1/\f=(Gn c.2.2.2.1 c.1 c.2.1 c.2.2.1 c.2.2.2.2.1 k p).1/\Mt c.2.2.2.1 c.1 c.2.1 c.2.2.1 c.2.2.2.2.1 k p=true)
theorem Gq (c:Ap) (k:Int) (p:List YB) (h:A6 c+p.length<=67108864):
  ∃(c':Ap) (f:Aq) (z:Int),Co c (k,()) (p,())=some (c',f,(z,()))/\Dp c (k,()) (p,())=some (c',f,(z,()))/\ChS c k p c' f z:=by
 have hc:=h
 simp only[A6]at hc
 unfold Co Af9 Dp Au0
 simp only[Af,Ag,Aa]
 rw[Tn c zq0,R9 c zq0,Vt c A53 A54,R0 c]
 simp only[Ae]
 cases ho:Ci c with
 |false=>exact⟨c,Ht,1,rfl,rfl,Lq c,rfl,rfl,by simp[Ar,Ht],fun _=>rfl,fun h=>by cases h⟩
 |true=>
  simp only[Bool.not_true,An]
  obtain⟨e',f,z,h1,h2,h3,h4,h5,h6⟩:=Bmo (Lq c) c.1 c.2.1 k p (by simp only[Cu,Lq];omega)
  have hn:=Bc2 c e' h3
  rw[h1,h2,Ae,Ae]
  have hf:Ar f<=A6 c+p.length+32:=by simp only[A6];omega
  by_cases hz:z=0
  .subst hz
   obtain⟨q1,q2,q3,q4,q5,q6⟩:=h6 rfl
   exact⟨Gt c e',f,0,rfl,rfl,e',rfl,hn,hf,fun h=>(h rfl).elim,fun _=>⟨ho,A31 ho q2 q3,q3,q4,q5,q6⟩⟩
  .have he:=h5 hz
   subst he
   refine⟨c,f,z,rfl,?_,Lq c,rfl,rfl,hf,fun _=>rfl,fun h=>(hz h).elim⟩
   rw[C6 (by simpa using hz)]
def Uw (n:Int):List YB:=bif inR n 0 4294967295 then Fh n 4 4 else []
theorem A8i (n:Int):(Uw n).length<=4:=by unfold Uw;cases inR n 0 4294967295<;>simp[Gb]
theorem Ayz (n:Int):Vd (n,())=some (Uw n,()):=by
 unfold Vd Ac5 Uw
 simp only[Af,Ag,Aa,Cj,Ae]
 cases inR n 0 4294967295 with
 |false=>rfl
 |true=>simp only[Bool.not_true,An];rw[Oa _ _ zq3,Ae];rfl
theorem Akw (n:Int):Fa (n,())=some (Uw n,()):=by
 unfold Fa Acs Uw
 simp only[Af,Ag,Aa,Cq,Ae]
 cases inR n 0 4294967295 with
 |false=>rfl
 |true=>simp only[Bool.not_true,An];rw[K8 _ _ zq3,Ae];rfl
theorem A32 (c:Ap) (h:A6 c<=67000000):
  ∃(c':Ap) (f:Aq) (z:Int),Ael c=some (c',f,(z,()))/\Ama c=some (c',f,(z,()))/\A6 c'=A6 c/\Ar f<=A6 c+36/\(z=0->ChS c 8 (Uw c.2.2.1) c' f 0):=by
 have hc:=h
 have hl:=A8i c.2.2.1
 simp only[A6]at hc
 unfold Ael A5w Ama Bhc
 simp only[Af,Ag,Aa]
 rw[Tn c zq0,R9 c zq0,Vt c A53 A54,R0 c]
 simp only[Ae]
 cases ho:Ci c with
 |false=>exact⟨c,Ht,6,rfl,rfl,rfl,by simp[Ar,Ht],fun h=>by cases h⟩
 |true=>
  simp only[Bool.not_true,An]
  cases hx:(c.1 != (1:Int))with
  |true=>exact⟨c,Ht,6,rfl,rfl,rfl,by simp[Ar,Ht],fun h=>by cases h⟩
  |false=>
   simp only[An]
   rw[Ayz,Akw,Ae,Ae]
   obtain⟨c',f,z,h1,h2,h3⟩:=Gq c 8 (Uw c.2.2.1) zq0
   rw[h1,h2,Ae]
   have h3':=h3
   obtain⟨e',q1,q2,q3,q4,q5⟩:=h3
   exact⟨c',f,z,rfl,rfl,q2,by omega,fun hz=>hz▸h3'⟩
def Ls (k b:List YB):Ay:=((15:Int),(0:Int),(0:Int),[],[],(0:Int),(0:Int),b,k,(0:Int),(0:Int),(0:Int),())
theorem Bmp (k b:List YB) (h1:k.length<=4294967296) (h2:b.length<=4294967296):Apz (k,()) (b,())=some (Ls k b):=by
 unfold Apz A0c Ls
 simp only[Ag,Aa]
 rw[Cg _ h1,Ae,Cg _ h2,Ae]
theorem Br2 (k b:List YB) (h1:k.length<=4294967296) (h2:b.length<=4294967296):A0p (k,()) (b,())=some (Ls k b):=by
 unfold A0p Bce Ls
 simp only[Aj,Aa,List.length_nil,Nat.zero_add,List.nil_append]
 rw[Al h1,Ba,Al h2,Ba]
def Gu (c:Ap) (f:Aq):Ay:=Ls c.2.2.2.1 (Dy c.1 f)
theorem H9 (c:Ap) (f:Aq) (h1:c.2.2.2.1.length<=4294967296) (h2:Ar f<=536870912):H6 c f=some (Gu c f):=by
 have ht:=Abr c.1 f
 unfold H6 Apc Gu
 simp only[Ag,Aa]
 rw[Tm _ _ h2,Ae,Bmp _ _ h1 zq0,Ae]
theorem Je (c:Ap) (f:Aq) (h1:c.2.2.2.1.length<=4294967296) (h2:Ar f<=536870912):Hf c f=some (Gu c f):=by
 have ht:=Abr c.1 f
 unfold Hf Ayv Gu
 simp only[Ag,Aa]
 rw[Xv _ _ h2,Ae,Br2 _ _ h1 zq0,Ae]
theorem Bjw (c:Ap) (f:Aq):F0 (Gu c f)<=A6 c+Ar f+32:=by
 have ht:=Abr c.1 f
 simp only[F0,Gu,Ls,A6,List.length_nil]
 omega
theorem Eo (c:Ap):c.2.2.2.1.length<=A6 c:=by simp only[A6];omega
theorem Abs (s:Ak):A6 (Cm s)<=A0 s:=by simp only[A6,Cm,A0];omega
def Xx (s:Ak) (c:Ap):Ak:=(s.1,s.2.1,s.2.2.1,c.1,c.2.1,c.2.2.1,c.2.2.2.1,c.2.2.2.2.1,c.2.2.2.2.2.1,c.2.2.2.2.2.2.1,c.2.2.2.2.2.2.2.1,c.2.2.2.2.2.2.2.2.1,c.2.2.2.2.2.2.2.2.2.1,c.2.2.2.2.2.2.2.2.2.2.1,c.2.2.2.2.2.2.2.2.2.2.2.1,c.2.2.2.2.2.2.2.2.2.2.2.2.1,c.2.2.2.2.2.2.2.2.2.2.2.2.2.1,c.2.2.2.2.2.2.2.2.2.2.2.2.2.2.1,s.2.2.2.2.2.2.2.2.2.2.2.2.2.2.2.2.2.2)
theorem Bf8 {s:Ak} {c:Ap} (h:A6 c<=A6 (Cm s)):A0 (Xx s c)<=A0 s:=by
 simp only[A6,Cm]at h
 simp only[A0,Xx];omega
theorem Bmq {s:Ak} {c:Ap} (h:Cs s=true) (hd:C5 s=false) (hc:Ci c=true) (h1:c.1=(Cm s).1) (h2:c.2.1=(Cm s).2.1):Cs (Xx s c)=true:=by
 have e1:C5 (Xx s c)=C5 s:=rfl
 have e2:Cm (Xx s c)=c:=rfl
 have e3:Bn (Xx s c)=Bn s:=rfl
 unfold Cs at h ⊢
 rw[e1,e2,e3]
 rw[hd]at h ⊢
 simp only[cond_false,Bool.and_eq_true]at h ⊢
 refine⟨h.1,h.2.1,h.2.2.1,h.2.2.2.1,hc,?_,?_,h.2.2.2.2.2.2.2⟩
 .have:=h.2.2.2.2.2.1
  simp only[Xx,h1,Cm];exact this
 .have:=h.2.2.2.2.2.2.1
  simp only[Xx,h2,Cm];exact this
def SeR (s:Ak) (m:Nat) (r:Ak) (os:List Bc) (ns:List Ay):Prop:=
 A0 r<=A0 s/\os.length+Bu H7 os<=A0 s+m+99/\ns.length+Bu F0 ns<=4*(A0 s+m+99)/\(Cs s=true->C5 s=false->Cs r=true/\r.2.2.1=s.2.2.1/\C5 r=false)
theorem SeR.none {s:Ak} {m:Nat}:SeR s m s [] []:=⟨Nat.le_refl _,by simp[Bu],by simp[Bu],fun h hd=>⟨h,rfl,hd⟩⟩
theorem Bjx (s:Ak) (h:A0 s<=8388608):
  ∃r os ns,Nd s=some (r,(os,()),(ns,()))/\Ayx s=some (r,(os,()),(ns,()))/\SeR s 0 r os ns:=by
 have hch:=Abs s
 unfold Nd Abm Ayx Ayw
 simp only[Af,Ag,Aa,Aj]
 rw[Mu s zq0,Ace s zq0,R7 s zq0,Aac s zq0]
 simp only[Ae]
 have nope: ∃r os ns,some (s,(([]:List Bc),()),(([]:List Ay),()))=some (r,(os,()),(ns,()))/\some (s,(([]:List Bc),()),(([]:List Ay),()))=some (r,(os,()),(ns,()))/\SeR s 0 r os ns:=
  ⟨s,[],[],rfl,rfl,.none⟩
 cases ho:Cs s with
 |false=>exact nope
 |true=>
  simp only[Bool.not_true,An]
  by_cases hd0:s.2.2.2.2.2.2.2.2.2.2.2.2.2.2.2.2.2.2.2.2.2.2.2.1=true
  .rw[Ei hd0,Ei hd0];exact nope
  .have hd:s.2.2.2.2.2.2.2.2.2.2.2.2.2.2.2.2.2.2.2.2.2.2.2.1=false:=by simpa using hd0
   rw[C6 hd,C6 hd]
   cases (s.2.2.2.2.2.1 != (0:Int))with
   |true=>exact nope
   |false=>
    simp only[An]
    obtain⟨c',f,z,a1,a2,a3,a4,a5⟩:=A32 (Cm s) zq0
    rw[a1,a2]
    simp only[Ae]
    have hk:=Eo c'
    have hm:=Bjw c' f
    by_cases z0:z=0
    .have ez:(z != (0:Int))=false:=by simp[z0]
     simp only[ez,An]
     rw[H9 _ _ zq0 zq0,Je _ _ zq0 zq0]
     simp only[Ae]
     obtain⟨e',q1,q2,q3,q4,q5⟩:=a5 z0
     obtain⟨r1,r2,r3⟩:=q5 rfl
     refine⟨Xx s c',_,_,rfl,rfl,Bf8 zq0,?_,?_,fun _ _=>⟨Bmq ho hd r2 (by rw[q1];rfl) (by rw[q1];rfl),rfl,hd⟩⟩
     .simp only[Bu,H7,List.length_cons,List.length_nil]
      simp only[Ar]at a4;omega
     .simp only[Bu,List.length_cons,List.length_nil];omega
    .have ez:(z != (0:Int))=true:=by simpa using z0
     simp only[ez,A9]
     exact nope
theorem Ade (l:List Ao) (h:l.length<=4294967296):Mm (l,())=some (l,()):=by
 unfold Mm Ww
 simp only[Aj,Aa,List.length_nil,Nat.zero_add,List.nil_append]
 rw[Al h];rfl
theorem Bc3 (s:Bs) (h:Bo s<=4294967296):Zz s=some s:=by
 have h':=h
 simp only[Bo]at h
 unfold Zz Zs
 simp (disch:=first|omega|(dsimp only;omega)|(simp only[Cd];omega)) only[Ag,Aa,Bjv,Cg,Aio,Ade,Ae]
def wfB (l:List YB):Prop:=∀(i:Nat) (x:YB),l[i]? =some x->0<=x.1/\x.1<=255
theorem Bc4 {a:YB} {l:List YB} (h:wfB (a::l)):(0<=a.1/\a.1<=255)/\wfB l:=⟨h 0 a rfl,fun i x hx=>h (i+1) x (by simpa using hx)⟩
theorem Br3 {n m:Int} (hn:0<=n/\n<=255) (hm:0<=m/\m<=255) (h:UInt8.ofNat n.toNat=UInt8.ofNat m.toNat):n=m:=by
 have:=congrArg UInt8.toNat h
 simp only[UInt8.toNat_ofNat']at this
 omega
theorem Bhm: ∀ {a b:List YB},wfB a->wfB b->(a.map fun d=>UInt8.ofNat (Int.toNat d.1))=(b.map fun d=>UInt8.ofNat (Int.toNat d.1))->a=b
 |[],[],_,_,_=>rfl
 |x::a,y::b,ha,hb,h=>by
  simp only[List.map_cons,List.cons.injEq]at h
  obtain⟨x1,x2⟩:=Bc4 ha
  obtain⟨y1,y2⟩:=Bc4 hb
  have e:=Br3 x1 y1 h.1
  have e2:=Bhm x2 y2 h.2
  obtain⟨n,⟨⟩⟩:=x
  obtain⟨m,⟨⟩⟩:=y
  simp only at e
  rw[e,e2]
 |[],_::_,_,_,h=>by simp at h
 |_::_,[],_,_,h=>by simp at h
theorem Bc5 {a b:List YB} (ha:wfB a) (hb:wfB b) (h:Dx a b=true):a=b:=by
 unfold Dx at h
 have h1:Qr a=Qr b:=by simpa using h
 unfold Qr at h1
 simp only[ByteArray.mk.injEq]at h1
 exact Bhm ha hb (by simpa using h1)
theorem Bmr {k:List YB} {r:Int} {sn:List YB} {ep seq kind:Int} {p:List YB} (h:Mt k r sn ep seq kind p=true):(Gn k r sn ep seq kind p).1.2.2.2.1=sn:=by
 unfold Gn
 rw[h];rfl
def E7 (l:List Ak):Nat:=l.countP fun x=> !C5 x
theorem Ki (t:Ch) (h:t.2.1.length<=4294967296):C9 t=(E7 t.2.1:Nat):=by
 obtain⟨cap,l,⟨⟩⟩:=t
 simp only at h
 have hl:=C0 (B:=Kb) l.length (fun i=>(((E7 (l.take i):Nat):Int),l,(l.length:Int),(i:Int),())) (((E7 l:Nat):Int),())
  (fun i hi=>by
   have hx:=List.getElem?_eq_getElem hi
   have hc:E7 (l.take (i+1))=E7 (l.take i)+(if C5 l[i]=true then 0 else 1):=by
    rw[<-E6 hx]
    unfold E7
    rw[List.countP_append]
    cases hd:C5 l[i]<;>simp[List.countP_cons,hd]
   have hle:E7 (l.take i)<=i:=by
    have:=List.countP_le_length (p:=fun x=> !C5 x) (l:=l.take i)
    simp only[List.length_take]at this
    unfold E7;omega
   unfold Kb
   simp (disch:=omega) only[Af,Ag,Aa,Dj hi,A9,Ca hx,Ae,w64]
   simp only[Bci]
   rw[hc]
   split
   .rename_i h1
    have h2:C5 l[i]=false:=by simpa using h1
    rw[if_neg (by rw[h2];decide)]
    simp
   .rename_i h1
    have h2:C5 l[i]=true:=by simpa using h1
    rw[if_pos h2]
    simp)
  (by unfold Kb;simp only[Af,Aa,Dk,An,List.take_length])
 unfold C9 G4 Aoj
 simp only[Ag,Aa]
 rw[show Ax Kb ((0:Int),l,(l.length:Int),(0:Int),())=_ from hl]
 rfl
theorem Bc6 {E:Type} {q:E->Bool}: ∀ {l:List E} {i k:Nat} {x y:E},l[i]? =some x->q y=q x->H8 (fun _ z=>q z) (l.set i y) k=H8 (fun _ z=>q z) l k
 |[],i,k,x,y,h,_=>by simp at h
 |a::r,0,k,x,y,h,e=>by
  simp at h;subst h
  simp only[List.set_cons_zero,H8,e]
 |a::r,i+1,k,x,y,h,e=>by
  simp only[List.set_cons_succ,H8]
  rw[Bc6 (l:=r) (i:=i) (by simpa using h) e]
theorem A33 {l:List Ak} {i:Nat} {x y:Ak} (hx:l[i]? =some x) (h:y.2.2.1=x.2.2.1) (s:List YB):Fl (l.set i y) s=Fl l s:=by
 unfold Fl Lv
 rw[Bc6 (q:=fun x=>Dx x.2.2.1 s) hx (by simp only[h])]
theorem A8j: ∀ {l:List Ak} {i:Nat} {x y:Ak},l[i]? =some x->(C5 y=true\/C5 y=C5 x)->E7 (l.set i y)<=E7 l
 |[],i,x,y,h,_=>by simp at h
 |a::r,0,x,y,h,e=>by
  simp at h;subst h
  simp only[List.set_cons_zero,E7,List.countP_cons]
  rcases e with e|e
  .rw[e];simp
  .rw[e];exact Nat.le_refl _
 |a::r,i+1,x,y,h,e=>by
  have:=A8j (l:=r) (i:=i) (x:=x) (y:=y) (by simpa using h) e
  simp only[List.set_cons_succ,E7,List.countP_cons]at this ⊢
  omega
theorem A8k {t:Ch} {i:Nat} {x y:Ak} (hl:t.2.1.length<=4294967296) (ht:Hl t=true) (hx:t.2.1[i]? =some x) (ho:Cs y=true) (hs:y.2.2.1=x.2.2.1) (hd:C5 y=true\/C5 y=C5 x):Hl (t.1,t.2.1.set i y,())=true:=by
 unfold Hl at ht ⊢
 simp only[Bool.and_eq_true]at ht ⊢
 refine⟨ht.1,by simpa using ht.2.1,?_,?_⟩
 .have h1:=ht.2.2.1
  rw[Ki t hl]at h1
  rw[Ki _ (by simpa using hl)]
  have h2:=A8j hx hd
  simp only[Bool.not_eq_true',decide_eq_false_iff_not]at h1 ⊢
  have h1': ¬((E7 t.2.1:Nat):Int)>t.1:=h1
  have h2':E7 (t.2.1.set i y)<=E7 t.2.1:=h2
  show ¬((E7 (t.2.1.set i y):Nat):Int)>t.1
  omega
 .have h1:=G7.1 ht.2.2.2
  refine G7.2 fun j z hz=>?_
  rw[List.getElem?_set]at hz
  unfold K7
  by_cases hij:i=j
  .subst hij
   have hlt:i<t.2.1.length:=(List.getElem?_eq_some_iff.1 hx).1
   rw[if_pos rfl,if_pos hlt]at hz
   simp only[Option.some.injEq]at hz
   subst hz
   have h3:=h1 i x hx
   unfold K7 at h3
   rw[A33 hx hs,hs,ho]
   simp only[Bool.not_eq_false',Bool.and_eq_true]at h3 ⊢
   exact⟨trivial,h3.2⟩
  .rw[if_neg hij]at hz
   have h3:=h1 j z hz
   unfold K7 at h3
   rw[A33 hx hs]
   exact h3
theorem Bjy (t:Ch) (n:YI) (s x:Ak) (h:Cd t+A0 s<=1073741824) (ht:Hl t=true) (h0:0<=n.1) (hx:t.2.1[n.1.toNat]? =some x) (ho:Hl (t.1,t.2.1.set n.1.toNat s,())=true):
  I1 t n s=some ((t.1,t.2.1.set n.1.toNat s,()),(true,())):=by
 have hl:t.2.1.length<=Cd t:=by simp only[Cd];omega
 have hlt:n.1.toNat<t.2.1.length:=(List.getElem?_eq_some_iff.1 hx).1
 have hn:Cd (t.1,t.2.1.set n.1.toNat s,())<=Cd t+A0 s:=by
  have:=Bcy (f:=A0) (l:=t.2.1) (i:=n.1.toNat) (x:=s)
  simp only[Cd,List.length_set];omega
 unfold I1 Akd
 simp only[Af,Ag,Aa,Aj]
 rw[Aio t zq0,Amg t zq0,Mu s zq0]
 simp only[Ae,ht,Bool.not_true,An]
 rw[Bq zq0,An,Bq zq0,An]
 have hid:idx t.2.1 n.1=some x:=by unfold idx;rw[if_pos h0];exact hx
 rw[hid]
 simp only[Ae]
 rw[Amg _ zq0]
 simp only[Ae,ho,Bool.not_true,An]
theorem Bow (s:Ak) (h:A0 s<=4294967296) (ho:Cs s=true): ∃r,Bcb s=some r/\Zx s=some r/\A0 r<=A0 s/\Cs r=true/\r.2.2.1=s.2.2.1/\C5 r=true:=by
 unfold Bcb Bca Zx Anz
 simp only[Af,Ag,Aa,Aj]
 rw[R7 s h,Aac s h,Ae,Ae,ho]
 simp only[Bool.not_true,An]
 simp only[A0]at h
 simp (disch:=first|omega|(dsimp only;omega)) only[Cg,Ae,List.length_nil,Nat.zero_add,List.nil_append,Al,Ba]
 refine⟨_,rfl,rfl,?_,?_,rfl,rfl⟩
 .simp only[A0,Bu,List.length_nil]
  omega
 .unfold Cs at ho ⊢
  simp only[Bool.and_eq_true]at ho ⊢
  refine⟨ho.1,ho.2.1,ho.2.2.1,ho.2.2.2.1,?_⟩
  rfl
theorem Akx {E:Type} {p:E->Bool} {l:List E} {i:Nat} {x:E} (hx:l[i]? =some x):(l.take (i+1)).filter p=(l.take i).filter p++(bif p x then [x]else []):=by
 rw[<-E6 hx,List.filter_append]
 cases h:p x<;>simp[List.filter_cons,h]
theorem Avf {E:Type} {p:E->Bool} {l:List E} {i:Nat}:((l.take i).filter p).length<=i:=by
 have:=List.length_filter_le p (l.take i)
 simp only[List.length_take]at this;omega
theorem Aky {E:Type} {f:E->Nat} {p:E->Bool}: ∀ {l:List E},Bu f (l.filter p)<=Bu f l
 |[]=>by simp[Bu]
 |a::r=>by
  have:=Aky (f:=f) (p:=p) (l:=r)
  simp only[List.filter_cons]
  split<;>simp only[Bu]<;>omega
theorem Bqv (n:Nat):Nat.beq n n=true:=Nat.beq_refl n
theorem Br4 {i:Nat}:Nat.ble (Int.toNat (i:Int)+1) (Int.toNat ((i:Int)+1))=true:=by
 rw[show Int.toNat (i:Int)=i by omega,show Int.toNat ((i:Int)+1)=i+1 by omega]
 exact Nat.ble_eq_true_of_le (Nat.le_refl _)
def Mv (n:Int) (x:A8):Bool:=decide (x.2.2.2.1≥n)
def El (p:Bm) (n:Int):Bm:=(p.1,p.2.1,p.2.2.1.filter (Mv n),())
theorem Vu (p:Bm) (n:YI) (h:Bb p<=4294967296):Rv p n=some (El p n.1):=by
 have h':=h
 obtain⟨a,b,l,⟨⟩⟩:=p
 simp only[Bb]at h'
 have hl:=C0 (B:=Fr) l.length (fun i=>(n.1,l,(l.length:Int),(i:Int),(0:Int),(0:Int),([]:List A8),a,b,(l.take i).filter (Mv n.1),())) ((0:Int),(0:Int),([]:List A8),a,b,l.filter (Mv n.1),())
  (fun i hi=>by
   have hx:=List.getElem?_eq_getElem hi
   have hle:=Avf (p:=Mv n.1) (l:=l) (i:=i)
   have hs:=Akx (p:=Mv n.1) hx
   unfold Fr
   simp only[Af,Ag,Aa,Aj,Dj hi,A9,Ca hx,Ae,Bqv,Ba]
   rw[w64 zq0,Br4]
   simp only[Ba]
   rw[hs]
   have hp:Mv n.1 l[i]=decide (l[i].2.2.2.1≥n.1):=rfl
   rw[hp]
   cases decide (l[i].2.2.2.1≥n.1)with
   |false=>simp[An]
   |true=>
    simp only[A9,cond_true]
    rw[Al zq1,Ba]
    rfl)
  (by unfold Fr;simp only[Af,Aa,Dk,An,List.take_length])
 unfold Rv Mk
 simp only[Ag,Aa]
 rw[Ni _ h]
 simp only[Ae]
 rw[show Ax Fr (n.1,l,(l.length:Int),(0:Int),(0:Int),(0:Int),([]:List A8),a,b,([]:List A8),())=_ from hl]
 rfl
theorem Ay0 (p:Bm) (n:Int):Bb (El p n)<=Bb p:=by
 have h1:=List.length_filter_le (Mv n) p.2.2.1
 have h2:=Aky (f:=Fy) (p:=Mv n) (l:=p.2.2.1)
 simp only[Bb,El];omega
def Sb (p:Bm) (n:Int):Bm:=bif D4 p && inR n 0 1000000 then El p n else p
theorem Bjz (p:Bm) (n:YI) (h:Bb p<=4294967296):Agk p n=some (Sb p n.1):=by
 have h':=h
 have hl0:p.2.2.1.length<=Bb p:=by simp only[Bb];omega
 unfold Agk Ae9 Sb
 simp only[Af,Ag,Aa]
 rw[Aim p zq0,Cq,Wa p h]
 simp only[Ae]
 obtain⟨a,b,l,⟨⟩⟩:=p
 simp only[Bb]at h'
 have hl:=C0 (B:=Kw) l.length (fun i=>(n.1,(i:Int),a,b,l,(0:Int),(0:Int),([]:List A8),a,b,(l.take i).filter (Mv n.1),())) ((0:Int),(0:Int),([]:List A8),a,b,l.filter (Mv n.1),())
  (fun i hi=>by
   have hx:=List.getElem?_eq_getElem hi
   have hle:=Avf (p:=Mv n.1) (l:=l) (i:=i)
   have hs:=Akx (p:=Mv n.1) hx
   have hn:=Mg (f:=Fy) hx
   unfold Kw
   simp only[Af,Ag,Aa,Aj,Dj hi,A9,Ca hx,Ae]
   rw[w64 zq0,hs,Ain _ zq0]
   simp only[Ae]
   have hp:Mv n.1 l[i]=decide (l[i].2.2.2.1≥n.1):=rfl
   rw[hp]
   cases decide (l[i].2.2.2.1≥n.1)with
   |false=>simp[An]
   |true=>
    simp only[A9,cond_true]
    rw[Al zq1,Ba]
    rfl)
  (by unfold Kw;simp only[Af,Aa,Dk,An,List.take_length])
 rw[show Ax Kw (n.1,(0:Int),a,b,l,(0:Int),(0:Int),([]:List A8),a,b,([]:List A8),())=_ from hl]
 cases D4 (a,b,l,())<;>cases inR n.1 0 1000000<;>rfl
theorem Avg (s:Ak):Bb (Bn s)<=A0 s:=by simp only[Bb,Bn,A0];omega
end
end Go.Proofs.YtnbbbaplphcebaaGreat
