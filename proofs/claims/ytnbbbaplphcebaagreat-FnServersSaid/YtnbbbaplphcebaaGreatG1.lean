/-
  That the program and the reference answer alike, in plain terms, and that the laws answer true.
-/
import Derived.Test.YtnbbbaplphcebaaGreatH
namespace Go.Proofs.YtnbbbaplphcebaaGreat
open Go.RowKit
set_option linter.unusedVariables false
set_option linter.unusedSimpArgs false
set_option maxHeartbeats 4000000
noncomputable section
def inR (n lo hi:Int):Bool:=decide (lo<=n) && decide (n<=hi)
theorem Cd (n lo hi:YI):Bg n lo hi=some (inR n.1 lo.1 hi.1,()):=by
 unfold Bg Aog inR
 simp only[Af,Aa,Bcc]
 split<;>rename_i h<;>simp at h<;>simp[h]
 all_goals omega
theorem Cq (n lo hi:YI):Bt n lo hi=some (inR n.1 lo.1 hi.1,()):=by
 unfold Bt Azl inR
 simp only[Af,Aa,Bcc]
 split<;>rename_i h<;>simp at h<;>simp[h]
 all_goals omega
def Dz (a b:List YB):Bool:=decide (T0 a=T0 b)
theorem Z8 (a b:YBs):Tc a b=some (Dz a.1 b.1,()):=rfl
theorem I5 (a b:YBs):Cf a b=some (Dz a.1 b.1,()):=rfl
theorem A76 (n:YI): ∃r,A3h n=some r/\O6 n=some r/\Co r=0:=by
 unfold A3h A3g O6 Adl
 simp only[Ag,Af,Aa,Cd,Cq,Ae]
 cases inR n.1 1 6
 .exact⟨_,rfl,rfl,rfl⟩
 .exact⟨_,rfl,rfl,rfl⟩
theorem Bg7 (t:Cj) (h:t.2.1.length<=4294967296): ∃r,Vq t=some r/\Agj t=some r:=by
 obtain⟨cap,l,_⟩:=t
 simp only at h
 obtain⟨o1,o2,h1,h2,hq⟩:=Vu (B1:=Kd) (B2:=Wu)
  (fun i d1 d2=>∃n:Int,0<=n/\n<=i/\d1=(n,l,(l.length:Int),(i:Int),())/\d2=(n,(i:Int),cap,l,())) (fun o1 o2=>o1=o2) l.length
  (by
   rintro i d1 d2 hi ⟨n,h0,h1,rfl,rfl⟩
   have hx:=List.getElem?_eq_getElem hi
   left
   unfold Kd Wu
   simp (disch:=omega) only[Af,Ag,Aa,Dm hi,A9,B9 hx,Ae,w64]
   simp only[Bcc]
   split
   .exact⟨_,_,rfl,rfl,n+1,by omega,by omega,rfl,rfl⟩
   .exact⟨_,_,rfl,rfl,n,by omega,by omega,rfl,rfl⟩)
  (by
   rintro d1 d2 ⟨n,h0,h1,rfl,rfl⟩
   unfold Kd Wu
   simp only[Af,Ag,Aa,Dn,Ao]
   exact⟨_,_,rfl,rfl,rfl⟩)
  (d1:=((0:Int),l,(l.length:Int),(0:Int),())) (d2:=((0:Int),(0:Int),cap,l,())) ⟨0,by omega,by omega,rfl,rfl⟩
 subst hq
 refine⟨(o1.1,()),?_,?_⟩
 .unfold Vq Aok
  simp only[Ag,Aa,h1,Ae]
 .unfold Agj Azt
  simp only[Ag,Aa,h2,Ae]
theorem Bqg (t:Cj) (a:A6) (h:t.2.1.length<=4294967296): ∃r,Vr t a=some r/\Bb7 t a=some r:=by
 obtain⟨cap,l,_⟩:=t
 obtain⟨p,q,_⟩:=a
 simp only at h
 obtain⟨o1,o2,h1,h2,hq⟩:=Vu (B1:=W4) (B2:=Ad6)
  (fun i d1 d2=>d1=(l,(l.length:Int),(i:Int),p,q,())/\d2=((i:Int),cap,l,p,q,())) (fun o1 o2=>o1=o2) l.length
  (by
   rintro i d1 d2 hi ⟨rfl,rfl⟩
   have hx:=List.getElem?_eq_getElem hi
   unfold W4 Ad6
   simp (disch:=omega) only[Af,Ag,Aa,Dm hi,A9,B9 hx,Ae,w64]
   simp only[Bcc]
   split
   .split
    .exact .inr ⟨_,_,rfl,rfl,rfl⟩
    .exact .inl ⟨_,_,rfl,rfl,rfl,rfl⟩
   .exact .inl ⟨_,_,rfl,rfl,rfl,rfl⟩)
  (by
   rintro d1 d2 ⟨rfl,rfl⟩
   unfold W4 Ad6
   simp only[Af,Ag,Aa,Dn,Ao]
   exact⟨_,_,rfl,rfl,rfl⟩)
  (d1:=(l,(l.length:Int),(0:Int),p,q,())) (d2:=((0:Int),cap,l,p,q,())) ⟨rfl,rfl⟩
 subst hq
 refine⟨(match o1 with| .inl a=>a.1| .inr _=>false,()),?_,?_⟩
 .unfold Vr Az6
  simp only[Ag,Aa,h1,Ae,E8]
  cases o1<;>rfl
 .unfold Bb7 Bb6
  simp only[Ag,Aa,h2,Ae,E8]
  cases o1<;>rfl
theorem R8 (b c:Bool):br b (some (c,())) (some (false,()))=some (b && c,()):=by cases b<;>rfl
theorem Bi3 (b c:Bool):br b (some (true,())) (some (c,()))=some (b || c,()):=by cases b<;>rfl
theorem Aea (b c d:Bool):br b (some (c,())) (some (d,()))=some (bif b then c else d,()):=by cases b<;>rfl
def Ck (a:A6):Bool:=inR a.1 0 4294967295 && inR a.2.1 0 65535
theorem Hs (a:A6):Fu a=some (Ck a,()):=by
 unfold Fu Aor Ck
 simp only[Af,Ag,Aa,Cd,Ae,R8]
theorem Iv (a:A6):Hl a=some (Ck a,()):=by
 unfold Hl Anh Ck
 simp only[Af,Ag,Aa,Cq,Ae,R8]
theorem Hx (a:YBs):Dx a=some ((a.1.length:Int)==12,()):=rfl
theorem Z9 (a:YI):Pa a=some (a.1==0 || a.1==1,()):=by
 unfold Pa Aon
 simp only[Af,Aa,Bi3]
theorem Aem (n:Int):(n==0 || n==1)=inR n 0 1:=by
 apply Kj
 simp[inR]
 omega
def Adb (w:Dk) (n:Int):Bool:=
 match idx w.2.1 ((n%1024)/32)with
 |some e=>IntKind.i64.wrap ((BitVec.ofInt (IntKind.i64.bits) (Int.fdiv e.1 (2^(min ((n%32)).toNat IntKind.i64.bits))) &&& BitVec.ofInt (IntKind.i64.bits) (1:Int)).toNat:Nat)==1
 |none=>false
theorem A0u (w:Dk) (n:YI) (hl:w.2.1.length=32) (h0:0<=n.1):Xm w n=some (Adb w n.1,()):=by
 obtain⟨e,he,_⟩:=Vv (l:=w.2.1) (n:=(n.1%1024)/32) zq0 zq0
 unfold Xm Aop Adb
 simp only[Aj,Ag,Aa,he,Ae]
 rw[Al h0,Al zq0,Al zq0]
 rfl
theorem A53 (w:Dk) (n:YI) (hl:w.2.1.length=32) (h0:0<=n.1):Ab6 w n=some (Adb w n.1,()):=by
 obtain⟨e,he,_⟩:=Vv (l:=w.2.1) (n:=(n.1%1024)/32) zq0 zq0
 unfold Ab6 As0 Adb
 simp only[Aj,Ag,Aa,he,Ae]
 rw[Al h0,Al zq0,Al zq0,show(n.1%1024)%32=n.1%32 by omega]
 rfl
def Gm (l:List YI):Bool:=D6 (fun _ e=> !inR e.1 0 4294967295) l
theorem Aqg (l:List YI) (n:Int) (hl:l.length<=4294967296):Ru (l,()) (n,())=some (Gm l && ((l.length:Int)==n),()):=by
 have h:=Fp (B:=Nv) l (fun i=>(l,n,l,(l.length:Int),(i:Int),())) (fun _ e=> !inR e.1 0 4294967295) (false,()) (l,n,())
  (fun i x hi hx=>by
   unfold Nv
   simp (disch:=omega) only[Af,Ag,Aa,Dm hi,A9,B9 hx,Ae,Cd,w64]
   rfl)
  (by unfold Nv;simp only[Af,Ag,Aa,Dn,Ao])
 unfold Ru Afm
 simp only[Ag,E8,Aa]
 rw[show((0:Int))=((0:Nat):Int)from rfl,h]
 unfold Gm
 cases D6 (fun _ (e:YI)=> !inR e.1 0 4294967295) l<;>rfl
def Aen (w:Dk):Bool:=D6 (fun i (_:Unit)=>Adb w (w.1+1+(i:Nat))) (List.replicate (1024-(w.1+1)).toNat ())
def Ip (w:Dk):Bool:=inR w.1 (-1) 281474976710655 && (Gm w.2.1 && ((w.2.1.length:Int)==32) && (Aen w && (w.1== -1 || Adb w w.1)))
theorem Bj {n lo hi:Int}:inR n lo hi=true↔lo<=n/\n<=hi:=by simp[inR]
theorem Blr (t:Int) (l:List YI) (hl:l.length=32) (h0: -1<=t) (h1:t<=281474976710655):Ay Qi (t+1,t,l,())=some (bif Aen (t,l,())then .inr (t,l,())else .inl (false,())):=by
 have h:=A3p (B:=Qi) (1024-(t+1)).toNat (fun i=>(t+1+(i:Nat),t,l,())) (fun i=>Adb (t,l,()) (t+1+(i:Nat))) (false,()) (t,l,())
  (fun i hi=>by
   unfold Qi
   simp (disch:=first|exact hl|(dsimp only;omega)|omega) only[Af,Ag,Aa,A0u,Ae,w64]
   rw[Al zq0]
   simp only[A9]
   rw[show t+1+((i+1:Nat):Int)=t+1+(i:Int)+1 by omega])
  (by
   unfold Qi
   simp only[Af,Aa]
   rw[Di zq1])
 rw[show t+1=t+1+((0:Nat):Int) by simp,h]
 rfl
theorem Bg8 (w:Dk) (hl:w.2.1.length<=4294967296):Aid w=some (Ip w,()):=by
 obtain⟨t,l,_⟩:=w
 simp only at hl
 unfold Aid Aty Ip
 simp (disch:=omega) only[Af,Ag,Aa,E8,Cd,Ae,Aqg]
 cases h1:inR t (-1) 281474976710655 with
 |false=>rfl
 |true=>
  cases h2:(Gm l && ((l.length:Int)==32))with
  |false=>rfl
  |true=>
   have h1:=Bj.1 h1
   have h3:l.length=32:=by simp at h2;omega
   simp only[Bool.not_true,Ao]
   rw[w64 zq0,Blr t l h3 zq0 zq0]
   cases h4:Aen (t,l,())with
   |false=>rfl
   |true=>
    simp only[Ae,cond_true,A0v,Bool.true_and]
    by_cases h5:t= -1
    .subst h5;rfl
    .rw[A0u _ _ h3 zq2,Ae,Bi3]
theorem Bls (t:Int) (l:List YI) (hl:l.length=32) (h0: -1<=t) (h1:t<=281474976710655):Ay I9 (t+1,t,l,())=some (bif Aen (t,l,())then .inr ()else .inl (false,())):=by
 have h:=A3p (B:=I9) (1024-(t+1)).toNat (fun i=>(t+1+(i:Nat),t,l,())) (fun i=>Adb (t,l,()) (t+1+(i:Nat))) (false,()) ()
  (fun i hi=>by
   unfold I9
   simp (disch:=first|exact hl|(dsimp only;omega)|omega) only[Af,Ag,Aa,A53,Ae,w64]
   rw[Al zq0]
   simp only[A9]
   rw[show t+1+((i+1:Nat):Int)=t+1+(i:Int)+1 by omega])
  (by
   unfold I9
   simp only[Af,Aa]
   rw[Di zq1])
 rw[show t+1=t+1+((0:Nat):Int) by simp,h]
 rfl
theorem Bi4 (t:Int) (l:List YI) (hl:l.length=32):Ay Na (0,t,l,())=some (bif Gm l then .inr (t,l,())else .inl (false,())):=by
 have h:=Fp (B:=Na) l (fun i=>((i:Int),t,l,())) (fun _ e=> !inR e.1 0 4294967295) (false,()) (t,l,())
  (fun i x hi hx=>by
   unfold Na
   rw[hl]at hi
   simp (disch:=omega) only[Af,Ag,Aa,B9 hx,Ae,Cq,w64]
   rw[Al zq0]
   rfl)
  (by unfold Na;simp only[Af,Ag,Aa,hl];rfl)
 rw[show((0:Int))=((0:Nat):Int)from rfl,h]
 rfl
theorem Bg9 (w:Dk):Aia w=some (Ip w,()):=by
 obtain⟨t,l,_⟩:=w
 unfold Aia Ahq Ip
 simp only[Af,Ag,Aa,E8,Cq,Ae]
 by_cases h3:l.length=32
 .rw[Di (by simp[h3])]
  cases h1:inR t (-1) 281474976710655 with
  |false=>rfl
  |true=>
   have h1:=Bj.1 h1
   simp only[Bool.not_true,Ao]
   rw[Bi4 t l h3]
   cases h2:Gm l with
   |false=>rfl
   |true=>
    simp only[Ae,cond_true,A0v,Bool.true_and,h3]
    rw[w64 zq0,Bls t l h3 zq0 zq0]
    by_cases h5:t= -1
    .subst h5
     rw[Di zq3]
     cases Aen (-1,l,())<;>rfl
    .rw[E0 zq1,A53 _ _ h3 zq2,Ae]
     have h6:(t== -1)=false:=by simpa using h5
     rw[h6]
     cases Adb (t,l,()) t<;>cases Aen (t,l,())<;>rfl
 .rw[E0 (by simpa using (by omega: ¬((l.length:Int)=32)))]
  have:((l.length:Int)==32)=false:=by simpa using (by omega: ¬((l.length:Int)=32))
  rw[this]
  simp
def Fv (e:YEp):Bool:=inR e.1 0 4294967295 && (((e.2.1.length:Int)==32) && (inR e.2.2.1 0 281474976710656 && Ip (e.2.2.2.1,e.2.2.2.2.1,())))
theorem A3q (e:YEp) (h:e.2.2.2.2.1.length<=4294967296):Z1 e=some (Fv e,()):=by
 unfold Z1 Az1 Fv
 simp (disch:=first|exact h) only[Af,Ag,Aa,Cd,Ae,R8,Bg8]
theorem Bcd (e:YEp):Vp e=some (Fv e,()):=by
 unfold Vp Azu Fv
 simp only[Af,Ag,Aa,Cq,Ae,R8,Bg9]
def ep0 (e:YEp):Bool:=(e.1==0) && (((e.2.1.length:Int)==0) && ((e.2.2.1==0) && ((e.2.2.2.1==0) && ((e.2.2.2.2.1.length:Int)==0))))
theorem A77 (e:YEp):Ul e=some (ep0 e,()):=by
 unfold Ul Ajb ep0
 simp only[Af,Aa,R8]
theorem A78 (l:List YB):Dz l []=((l.length:Int)==0):=by
 apply Kj
 unfold Dz T0
 cases l<;>simp
 omega
theorem A54 (l:List YI):Agr (l,()) ([],())=some ((l.length:Int)==0,()):=by
 unfold Agr Afl
 simp only[Af,Ag,Aa,E8]
 cases l with
 |nil=>
  rw[Di zq3]
  rw[Eg]
  rfl
 |cons x r=>
  rw[E0 zq1]
  simp;omega
theorem A79 (e:YEp):Xl e ((0:Int),[],(0:Int),(0:Int),[],())=some (ep0 e,()):=by
 unfold Xl Aom ep0
 simp only[Af,Ag,Aa,I5,A78,A54,Ae,R8]
def A3r (c:Ap):Bool:=(c.1==0) && (((c.2.1.length:Int)==0) && (ep0 (c.2.2.1,c.2.2.2.1,c.2.2.2.2.1,c.2.2.2.2.2.1,c.2.2.2.2.2.2.1,()) && (ep0 (c.2.2.2.2.2.2.2.1,c.2.2.2.2.2.2.2.2.1,c.2.2.2.2.2.2.2.2.2.1,c.2.2.2.2.2.2.2.2.2.2.1,c.2.2.2.2.2.2.2.2.2.2.2.1,()) &&
 (!c.2.2.2.2.2.2.2.2.2.2.2.2.1 && ((c.2.2.2.2.2.2.2.2.2.2.2.2.2.1==0) && ((c.2.2.2.2.2.2.2.2.2.2.2.2.2.2.1.length:Int)==0))))))
theorem Bce (c:Ap):Z0 c=some (A3r c,()):=by
 unfold Z0 Zt A3r
 simp only[Af,Ag,Aa,A79,Ae,R8]
theorem Bfv (c:Ap):Ac7 c=some (A3r c,()):=by
 unfold Ac7 Acn A3r
 simp only[Af,Ag,Aa,A77,Ae,R8]
abbrev Lq (c:Ap):YEp:=(c.2.2.1,c.2.2.2.1,c.2.2.2.2.1,c.2.2.2.2.2.1,c.2.2.2.2.2.2.1,())
abbrev Vi (c:Ap):YEp:=(c.2.2.2.2.2.2.2.1,c.2.2.2.2.2.2.2.2.1,c.2.2.2.2.2.2.2.2.2.1,c.2.2.2.2.2.2.2.2.2.2.1,c.2.2.2.2.2.2.2.2.2.2.2.1,())
abbrev Xt (c:Ap):Bool:=c.2.2.2.2.2.2.2.2.2.2.2.2.1
abbrev Aaa (c:Ap):Int:=c.2.2.2.2.2.2.2.2.2.2.2.2.2.1
abbrev J6 (c:Ap):List YB:=c.2.2.2.2.2.2.2.2.2.2.2.2.2.2.1
def Lr (c:Ap):Bool:=bif !Xt c then ep0 (Vi c) && (Aaa c==0)else
 !!Fv (Vi c) && (!((Vi c).1 != IntKind.i64.wrap ((Lq c).1-1)) && (inR (Aaa c) 0 1000005 || ((Aaa c== -1) && (c.1==1))))
def Ci (c:Ap):Bool:= !!(c.1==0 || c.1==1) && (!!((c.2.1.length:Int)==12) && (!!Fv (Lq c) && (!!Lr c && (((J6 c).length:Int)==0 || ((c.1==0) && ((((J6 c).length:Int)==32) && decide ((Lq c).1<4294967295)))))))
theorem Bqh (c:Ap) (h:(Vi c).2.2.2.2.1.length<=4294967296):Auw c=some (Lr c,()):=by
 unfold Auw Atz Lr
 simp (disch:=first|exact h) only[Af,Ag,Aa,A79,Ae,A3q,Cd,Aea,Bool.cond_false_right,Bool.cond_true_left,Bool.cond_false_left]
theorem Vw (c:Ap) (h1:(Lq c).2.2.2.2.1.length<=4294967296) (h2:(Vi c).2.2.2.2.1.length<=4294967296):Ki c=some (Ci c,()):=by
 unfold Ki Aoq Ci
 simp (disch:=first|exact h1|exact h2) only[Af,Ag,Aa,Z9,Hx,Ae,A3q,Bqh,Aea,Bool.cond_false_right,Bool.cond_true_left,Bool.cond_false_left]
theorem R9 (c:Ap):Kg c=some (Ci c,()):=by
 obtain⟨role,sn,n1,k1,q1,t1,b1,n2,k2,q2,t2,b2,has,til,next,_⟩:=c
 unfold Kg Anf Ci Lr
 simp only[Af,Ag,Aa,Cq,Ae,Bcd,A77,Aea,Bool.cond_false_right,Bool.cond_true_left,Bool.cond_false_left,Aem,Lq,Vi,Xt,Aaa,J6]
 refine congrArg (fun b=>some (b,())) ?_
 cases h1:inR role 0 1 with
 |false=>rfl
 |true=>
  have h1:=Bj.1 h1
  cases has with
  |false=>simp[bne,Bool.and_assoc]
  |true=>
   rcases(show role=0\/role=1 by omega)with rfl|rfl
   .simp[bne,Bool.and_assoc]
   .have e2:inR til (-1) 1000005=(inR til 0 1000005 || til== -1):=by
     apply Kj;simp[inR];omega
    simp[bne,Bool.and_assoc,e2]
def eqA (a b c d:Int):Bool:=and (a==c) (and (b==d) true)
def Tj (at1 at2:Int) (l:List A8) (i:Nat) (x:A8):Bool:=
 !(Ck (x.1,x.2.1,()) && (!eqA x.1 x.2.1 at1 at2 && (((x.2.2.1.length:Int)==12) && (inR x.2.2.2.1 0 1000006 && D6 (fun _ y=>eqA y.1 y.2.1 x.1 x.2.1) (l.take i)))))
def D7 (p:Bn):Bool:=Ck (p.1,p.2.1,()) && (!decide ((p.2.2.1.length:Int)>3) && D6 (Tj p.1 p.2.1 p.2.2.1) p.2.2.1)
theorem Blt (l0:List A8) (n:Int) (i:Nat) (m:List A8) (hm:m.length<=4294967296) (a b:Int) (l:List A8) (x:A8):
  Ay J1 (l0,n,(i:Int),m,(m.length:Int),(0:Int),a,b,l,x.1,x.2.1,x.2.2.1,x.2.2.2.1,())=some (bif D6 (fun _ y=>eqA y.1 y.2.1 x.1 x.2.1) m then .inr (l0,n,(i:Int),a,b,l,())else .inl (false,())):=by
 have h:=Fp (B:=J1) m (fun j=>(l0,n,(i:Int),m,(m.length:Int),(j:Int),a,b,l,x.1,x.2.1,x.2.2.1,x.2.2.2.1,())) (fun _ y=>eqA y.1 y.2.1 x.1 x.2.1) (false,()) (l0,n,(i:Int),a,b,l,())
  (fun j y hj hy=>by
   unfold J1
   simp (disch:=omega) only[Af,Ag,Aa,Dm hj,A9,B9 hy,Ae,w64]
   rfl)
  (by unfold J1;simp only[Af,Aa,Dn,Ao])
 rw[show((0:Int))=((0:Nat):Int)from rfl,h]
theorem Blu (i:Nat) (a b:Int) (l:List A8) (hi:i<=l.length) (hl:l.length<=4294967296) (x:A8):
  Ay It ((i:Int),(0:Int),a,b,l,x.1,x.2.1,x.2.2.1,x.2.2.2.1,())=some (bif D6 (fun _ y=>eqA y.1 y.2.1 x.1 x.2.1) (l.take i)then .inr ((i:Int),a,b,l,())else .inl (false,())):=by
 have hlen:(l.take i).length=i:=by simp;omega
 have h:=Fp (B:=It) (l.take i) (fun j=>((i:Int),(j:Int),a,b,l,x.1,x.2.1,x.2.2.1,x.2.2.2.1,())) (fun _ y=>eqA y.1 y.2.1 x.1 x.2.1) (false,()) ((i:Int),a,b,l,())
  (fun j y hj hy=>by
   have hy2:l[j]? =some y:=by rw[List.getElem?_take]at hy;split at hy;exact hy;cases hy
   unfold It
   simp (disch:=omega) only[Af,Ag,Aa,Dm (show j<i by omega),A9,B9 hy2,Ae,w64]
   rfl)
  (by unfold It;rw[hlen];simp only[Af,Aa,Dn,Ao])
 rw[show((0:Int))=((0:Nat):Int)from rfl,h]
theorem Wb (p:Bn) (hl:p.2.2.1.length<=4294967296):Ur p=some (D7 p,()):=by
 obtain⟨a,b,l,_⟩:=p
 simp only at hl
 have h:=Fp (B:=Ma) l (fun i=>(l,(l.length:Int),(i:Int),a,b,l,())) (Tj a b l) (false,()) ()
  (fun i x hi hx=>by
   have hlen:(l.take i).length<=4294967296:=by simp;omega
   unfold Ma
   simp only[Af,Ag,Aa,Aj,E8,Dm hi,A9,B9 hx,Ae,Hs,Hx,Cd,Int.toNat_natCast,Int.toNat_zero,List.drop_zero]
   rw[Blt l _ i _ hlen]
   unfold Tj
   rw[Al zq0,Al zq0]
   simp only[Ba,eqA,Ae]
   cases Ck (x.1,x.2.1,())<;>cases (and (x.1==a) (and (x.2.1==b) true))<;>cases ((x.2.2.1.length:Int)==12)<;>cases inR x.2.2.2.1 0 1000006<;>cases D6 (fun _ (y:A8)=>and (y.1==x.1) (and (y.2.1==x.2.1) true)) (l.take i)<;>first|rfl|(simp only[cond_true,A0v,br,Bool.not_true];rw[w64 zq0];rfl))
  (by unfold Ma;simp only[Af,Aa,Dn,Ao])
 unfold Ur Abc D7
 simp only[Af,Ag,Aa,E8,Hs,Ae]
 rw[show((0:Int))=((0:Nat):Int)from rfl,h]
 cases Ck (a,b,())<;>cases decide ((l.length:Int)>3)<;>cases D6 (Tj a b l) l<;>rfl
theorem Aim (p:Bn) (hl:p.2.2.1.length<=4294967296):Ql p=some (D7 p,()):=by
 obtain⟨a,b,l,_⟩:=p
 simp only at hl
 have h:=Fp (B:=L0) l (fun i=>((i:Int),a,b,l,())) (Tj a b l) (false,()) ()
  (fun i x hi hx=>by
   unfold L0
   simp only[Af,Ag,Aa,Aj,E8,Dm hi,A9,B9 hx,Ae,Iv,Cq]
   rw[Blu i a b l zq0 hl]
   unfold Tj
   simp only[Ae,eqA,bne]
   cases Ck (x.1,x.2.1,())<;>cases (and (x.1==a) (and (x.2.1==b) true))<;>cases ((x.2.2.1.length:Int)==12)<;>cases inR x.2.2.2.1 0 1000006<;>cases D6 (fun _ (y:A8)=>and (y.1==x.1) (and (y.2.1==x.2.1) true)) (l.take i)<;>first|rfl|(simp only[cond_true,A0v,br,Bool.not_true];rw[w64 zq0];rfl))
  (by unfold L0;simp only[Af,Aa,Dn,Ao])
 unfold Ql Aa0 D7
 simp only[Af,Ag,Aa,E8,Iv,Ae]
 rw[show((0:Int))=((0:Nat):Int)from rfl,h]
 cases Ck (a,b,())<;>cases decide ((l.length:Int)>3)<;>cases D6 (Tj a b l) l<;>rfl
abbrev Cm (s:Ak):Ap:=(s.2.2.2.1,s.2.2.2.2.1,s.2.2.2.2.2.1,s.2.2.2.2.2.2.1,s.2.2.2.2.2.2.2.1,s.2.2.2.2.2.2.2.2.1,s.2.2.2.2.2.2.2.2.2.1,s.2.2.2.2.2.2.2.2.2.2.1,s.2.2.2.2.2.2.2.2.2.2.2.1,s.2.2.2.2.2.2.2.2.2.2.2.2.1,s.2.2.2.2.2.2.2.2.2.2.2.2.2.1,s.2.2.2.2.2.2.2.2.2.2.2.2.2.2.1,s.2.2.2.2.2.2.2.2.2.2.2.2.2.2.2.1,s.2.2.2.2.2.2.2.2.2.2.2.2.2.2.2.2.1,s.2.2.2.2.2.2.2.2.2.2.2.2.2.2.2.2.2.1,())
abbrev Bm (s:Ak):Bn:=(s.2.2.2.2.2.2.2.2.2.2.2.2.2.2.2.2.2.2.1,s.2.2.2.2.2.2.2.2.2.2.2.2.2.2.2.2.2.2.2.1,s.2.2.2.2.2.2.2.2.2.2.2.2.2.2.2.2.2.2.2.2.1,())
abbrev Au7 (s:Ak):Int:=s.2.2.2.2.2.2.2.2.2.2.2.2.2.2.2.2.2.2.2.2.2.1
abbrev Xu (s:Ak):Int:=s.2.2.2.2.2.2.2.2.2.2.2.2.2.2.2.2.2.2.2.2.2.2.1
abbrev C4 (s:Ak):Bool:=s.2.2.2.2.2.2.2.2.2.2.2.2.2.2.2.2.2.2.2.2.2.2.2.1
def Cs (s:Ak):Bool:=
 inR s.1 1 9 && (((s.2.1.length:Int)==12) && (((s.2.2.1.length:Int)==12) && (inR (Au7 s) 0 1000000 &&
  (bif C4 s then A3r (Cm s) && (eqA (Bm s).1 (Bm s).2.1 0 0 && ((((Bm s).2.2.1.length:Int)==0) && (Xu s==0)))
  else Ci (Cm s) && ((s.2.2.2.1==1) && (Dz s.2.2.2.2.1 s.2.2.1 && (D7 (Bm s) && inR (Xu s) 0 1000000)))))))
theorem Sa (s:Ak) (h:A5 s<=4294967296):Pb s=some (Cs s,()):=by
 have hn:A5 s=_:=rfl
 unfold Pb Aos Cs
 simp only[A5]at h
 rw[Vw _ zq2 zq2,Wb _ zq2]
 simp only[Af,Ag,Aa,Cd,Hx,Bce,I5,Ae,Aea,Bool.cond_false_right,Bool.cond_true_left,Bool.cond_false_left,eqA,Bool.not_not]
theorem Bqi:Ic ((-1:Int),())=some ((0:Int),(0:Int),()):=by
 unfold Ic Ae1
 simp only[Af,Ag,Aa,Cq,Ae]
 rfl
theorem Aab (s:Ak) (h:A5 s<=4294967296):O7 s=some (Cs s,()):=by
 unfold O7 Ani Cs
 simp only[A5]at h
 rw[Aim _ zq2]
 simp only[Af,Ag,Aa,Cq,Bfv,Z8,R9,Bqi,Ae,Aea,Bool.cond_false_right,Bool.cond_true_left,Bool.cond_false_left,eqA,Bool.not_not]
 refine congrArg (fun b=>some (b,())) ?_
 cases hd:C4 s with
 |true=>
  cases hl:Xu s==0 with
  |false=>simp[hd,hl,bne]
  |true=>
   have e:inR (Xu s) 0 1000000=true:=by simp at hl;simp[inR,hl]
   simp[hd,hl,bne,e]
 |false=>
  cases hl:inR (Xu s) 0 1000000 with
  |false=>simp[hd,hl,bne]
  |true=>simp[hd,hl,bne]
def Lw {E:Type} (q:E->Bool) (l:List E):Int:=(Ih (fun _ x=>q x) l 0).elim (-1) fun i=>(i:Int)
theorem Aeo {E:Type} {q:E->Bool} {l:List E} {i:Nat} {x:E} (hx:l[i]? =some x) (hq:q x=true):0<=Lw q l/\Lw q l<=i:=by
 unfold Lw
 cases h:Ih (fun _ x=>q x) l 0 with
 |none=>
  have:=Aca.1 h i x hx
  rw[hq]at this;cases this
 |some k=>
  obtain⟨j,y,rfl,h2,h3,h4⟩:=Sb h
  simp only[Option.elim,Nat.zero_add]
  rcases Nat.lt_or_ge i j with hh|hh
  .have:=h4 i x hh hx
   try simp only at this
   rw[hq]at this;cases this
  .omega
theorem Awn {E:Type} {q:E->Bool} {l:List E} {i:Nat} {x:E} (hx:l[i]? =some x) (hq:q x=true):decide (Lw q l<i)= !D6 (fun _ y=>q y) (l.take i):=by
 apply Kj
 have hb:=Aeo hx hq
 rw[Bool.not_eq_true',decide_eq_true_iff]
 constructor
 .intro hlt
  cases hn:D6 (fun _ y=>q y) (l.take i)with
  |false=>rfl
  |true=>
   rw[G8]at hn
   unfold Lw at hlt hb
   cases h:Ih (fun _ x=>q x) l 0 with
   |none=>rw[h]at hb;simp at hb
   |some k=>
    rw[h]at hlt
    simp only[Option.elim]at hlt
    obtain⟨j,y,rfl,h2,h3,h4⟩:=Sb h
    have:=hn j y (by rw[List.getElem?_take,if_pos zq0];exact h2)
    try simp only at h3
    rw[this]at h3;cases h3
 .intro hn
  rcases Int.lt_or_le (Lw q l) i with h|h
  .exact h
  .exfalso
   have hall:D6 (fun _ y=>q y) (l.take i)=true:=by
    rw[G8]
    intro j y hj
    rw[List.getElem?_take]at hj
    split at hj
    .rename_i hlt
     cases hq2:q y with
     |false=>rfl
     |true=>have:=Aeo hj hq2;omega
    .cases hj
   rw[hall]at hn;cases hn
theorem Awo {E:Type} {q:E->Bool} {l:List E}: -1<=Lw q l/\Lw q l<l.length:=by
 unfold Lw
 cases h:Ih (fun _ x=>q x) l 0 with
 |none=>simp[Option.elim];omega
 |some k=>
  obtain⟨j,y,rfl,h2,_⟩:=Sb h
  have:=(List.getElem?_eq_some_iff.1 h2).1
  simp[Option.elim];omega
theorem Au8 {E:Type} (q:E->Bool) (l:List E):(sm ((Ih (fun _ x=>q x) l 0).elim (Sum.inr ()) fun i=>Sum.inl ((i:Int),())) (fun c:Int×Unit=>some (c.1,())) fun _:Unit=>some ((-1:Int),()))=some (Lw q l,()):=by
 unfold Lw
 cases Ih (fun _ x=>q x) l 0<;>rfl
def Fr (l:List Ak) (s:List YB):Int:=Lw (fun x=>Dz x.2.2.1 s) l
theorem Aac (t:Cj) (a:YBs) (h:t.2.1.length<=4294967296):Mr t a=some (Fr t.2.1 a.1,()):=by
 obtain⟨cap,l,_⟩:=t
 obtain⟨s,_⟩:=a
 simp only at h
 have hl:=Oo (B:=Rh) l (fun i=>(s,l,(l.length:Int),(i:Int),())) (fun _ x=>Dz x.2.2.1 s) (fun i=>((i:Int),())) ()
  (fun i x hi hx=>by
   unfold Rh
   simp (disch:=omega) only[Af,Ag,Aa,Dm hi,A9,B9 hx,Ae,w64,I5]
   rfl)
  (by unfold Rh;simp only[Af,Aa,Dn,Ao])
 unfold Mr Aot
 simp only[Ag,Aa,E8]
 rw[show((0:Int))=((0:Nat):Int)from rfl,hl]
 exact Au8 _ _
theorem Bcf (t:Cj) (a:YBs) (h:t.2.1.length<=4294967296):Adw t a=some (Fr t.2.1 a.1,()):=by
 obtain⟨cap,l,_⟩:=t
 obtain⟨s,_⟩:=a
 simp only at h
 have hl:=Oo (B:=Rd) l (fun i=>(s,(i:Int),cap,l,())) (fun _ x=>Dz x.2.2.1 s) (fun i=>((i:Int),())) ()
  (fun i x hi hx=>by
   unfold Rd
   simp (disch:=omega) only[Af,Ag,Aa,Dm hi,A9,B9 hx,Ae,w64,Z8]
   rfl)
  (by unfold Rd;simp only[Af,Aa,Dn,Ao])
 unfold Adw Ank
 simp only[Ag,Aa,E8]
 rw[show((0:Int))=((0:Nat):Int)from rfl,hl]
 exact Au8 _ _
theorem Kk (a:List YB):Dz a a=true:=by simp[Dz]
def D0 (t:Cj):Int:=match Vq t with|some r=>r.1|none=>0
theorem Bcg (t:Cj) (h:t.2.1.length<=4294967296):Vq t=some (D0 t,()):=by
 obtain⟨r,h1,h2⟩:=Bg7 t h
 unfold D0;rw[h1]
theorem Blv (t:Cj) (h:t.2.1.length<=4294967296):Agj t=some (D0 t,()):=by
 obtain⟨r,h1,h2⟩:=Bg7 t h
 unfold D0;rw[h1,h2]
def Aqh (t:Cj) (a:A6):Bool:=match Vr t a with|some r=>r.1|none=>false
theorem Bch (t:Cj) (a:A6) (h:t.2.1.length<=4294967296):Vr t a=some (Aqh t a,()):=by
 obtain⟨r,h1,h2⟩:=Bqg t a h
 unfold Aqh;rw[h1]
def La (l:List Ak) (i:Nat) (x:Ak):Bool:= !(Cs x && !decide (Fr l x.2.2.1<i))
def Hm (t:Cj):Bool:=inR t.1 1 6 && (!decide ((t.2.1.length:Int)>12) && (!decide (D0 t>t.1) && D6 (La t.2.1) t.2.1))
theorem Amg (t:Cj) (h:Co t<=4294967296):V9 t=some (Hm t,()):=by
 obtain⟨cap,l,_⟩:=t
 simp only[Co]at h
 have hl:=Fp (B:=Ui) l (fun i=>(l,(l.length:Int),(i:Int),cap,l,())) (La l) (false,()) ()
  (fun i x hi hx=>by
   have h2:=Ob (f:=A5) hx
   unfold Ui
   simp only[Af,Ag,Aa,Dm hi,A9,B9 hx,Ae]
   rw[Sa x zq0,Aac _ _ zq2,w64 zq0]
   simp only[Ae,La]
   cases Cs x<;>cases decide (Fr l x.2.2.1<(i:Int))<;>rfl)
  (by unfold Ui;simp only[Af,Aa,Dn,Ao])
 unfold V9 At0 Hm
 simp only[Af,Ag,Aa,E8,Cd,Ae]
 rw[Bcg _ zq2,show((0:Int))=((0:Nat):Int)from rfl,hl]
 simp only[Ae]
 cases inR cap 1 6<;>cases decide ((l.length:Int)>12)<;>cases decide (D0 (cap,l,())>cap)<;>cases D6 (La l) l<;>rfl
theorem Bha (t:Cj) (h:Co t<=4294967296):Aib t=some (Hm t,()):=by
 obtain⟨cap,l,_⟩:=t
 simp only[Co]at h
 have hl:=Fp (B:=T9) l (fun i=>((i:Int),cap,l,())) (La l) (false,()) ()
  (fun i x hi hx=>by
   have h2:=Ob (f:=A5) hx
   have h3:=Aeo (q:=fun y=>Dz y.2.2.1 x.2.2.1) hx (Kk _)
   have h4:(Fr l x.2.2.1 != (i:Int))=decide (Fr l x.2.2.1<(i:Int)):=by
    apply Kj;unfold Fr;simp;omega
   unfold T9
   simp only[Af,Ag,Aa,Dm hi,A9,B9 hx,Ae]
   rw[Aab x zq0,Bcf _ _ zq2,w64 zq0]
   simp only[Ae,La,h4]
   cases Cs x<;>cases decide (Fr l x.2.2.1<(i:Int))<;>rfl)
  (by unfold T9;simp only[Af,Aa,Dn,Ao])
 unfold Aib As6 Hm
 simp only[Af,Ag,Aa,E8,Cq,Ae]
 rw[Blv _ zq2,show((0:Int))=((0:Nat):Int)from rfl,hl]
 simp only[Ae]
 cases inR cap 1 6<;>cases decide ((l.length:Int)>12)<;>cases decide (D0 (cap,l,())>cap)<;>cases D6 (La l) l<;>rfl
def C5 (l:List Am) (a:A6):Int:=Lw (fun x=>eqA x.1 x.2.1 a.1 a.2.1) l
theorem Xv (l:List Am) (a:A6) (h:l.length<=4294967296):N7 (l,()) a=some (C5 l a,()):=by
 obtain⟨p,q,_⟩:=a
 have hl:=Oo (B:=Nw) l (fun i=>(l,(l.length:Int),(i:Int),p,q,())) (fun _ x=>eqA x.1 x.2.1 p q) (fun i=>((i:Int),())) ()
  (fun i x hi hx=>by
   unfold Nw
   simp (disch:=omega) only[Af,Ag,Aa,Dm hi,A9,B9 hx,Ae,w64]
   rfl)
  (by unfold Nw;simp only[Af,Aa,Dn,Ao])
 unfold N7 Afp
 simp only[Ag,Aa,E8]
 rw[show((0:Int))=((0:Nat):Int)from rfl,hl]
 exact Au8 _ _
theorem Aad (l:List Am) (a:A6) (h:l.length<=4294967296):Ab9 (l,()) a=some (C5 l a,()):=by
 obtain⟨p,q,_⟩:=a
 have hl:=Oo (B:=Ud) l (fun i=>(l,(i:Int),p,q,())) (fun _ x=>eqA x.1 x.2.1 p q) (fun i=>((i:Int),())) ()
  (fun i x hi hx=>by
   unfold Ud
   simp (disch:=omega) only[Af,Ag,Aa,Dm hi,A9,B9 hx,Ae,w64]
   rfl)
  (by unfold Ud;simp only[Af,Aa,Dn,Ao])
 unfold Ab9 Atk
 simp only[Ag,Aa,E8]
 rw[show((0:Int))=((0:Nat):Int)from rfl,hl]
 exact Au8 _ _
theorem Bci (a b:Int):eqA a b a b=true:=by simp[eqA]
def Tk (l:List Am) (i:Nat) (x:Am):Bool:=
 !(Ck (x.1,x.2.1,()) && (inR x.2.2.1 0 1000000 && (inR x.2.2.2.1 0 (IntKind.i64.wrap (3*x.2.2.1)) && !decide (C5 l (x.1,x.2.1,())<i))))
def Cg (l:List Am):Bool:= !decide ((l.length:Int)>8) && D6 (Tk l) l
theorem Uv (l:List Am) (h:l.length<=4294967296):Mh (l,())=some (Cg l,()):=by
 have hl:=Fp (B:=Mn) l (fun i=>(l,l,(l.length:Int),(i:Int),())) (Tk l) (false,()) ()
  (fun i x hi hx=>by
   unfold Mn
   simp only[Af,Ag,Aa,Dm hi,A9,B9 hx,Ae,Hs,Cd]
   rw[Xv _ _ h,w64 (n:=(i:Int)+1) zq0]
   simp only[Ae,Tk]
   cases Ck (x.1,x.2.1,())<;>cases inR x.2.2.1 0 1000000<;>cases inR x.2.2.2.1 0 (IntKind.i64.wrap (3*x.2.2.1))<;>cases decide (C5 l (x.1,x.2.1,())<(i:Int))<;>rfl)
  (by unfold Mn;simp only[Af,Aa,Dn,Ao])
 unfold Mh Acv Cg
 simp only[Af,Ag,Aa,E8]
 rw[show((0:Int))=((0:Nat):Int)from rfl,hl]
 simp only[Ae]
 cases decide ((l.length:Int)>8)<;>cases D6 (Tk l) l<;>rfl
theorem Bof (l:List Am) (h:l.length<=4294967296) (i:Nat) (x:Am) (hx:l[i]? =some x):
  Ay H9 (l,(i:Int),(0:Int),())=some (bif D6 (fun _ y=>eqA y.1 y.2.1 x.1 x.2.1) (l.take i)then .inr (l,(i:Int),())else .inl (false,())):=by
 have hi:=(List.getElem?_eq_some_iff.1 hx).1
 have hlen:(l.take i).length=i:=by simp;omega
 have hl:=Fp (B:=H9) (l.take i) (fun j=>(l,(i:Int),(j:Int),())) (fun _ y=>eqA y.1 y.2.1 x.1 x.2.1) (false,()) (l,(i:Int),())
  (fun j y hj hy=>by
   have hy2:l[j]? =some y:=by rw[List.getElem?_take]at hy;split at hy;exact hy;cases hy
   unfold H9
   simp (disch:=omega) only[Af,Ag,Aa,Dm (show j<i by omega),A9,B9 hy2,B9 hx,Ae,w64]
   rfl)
  (by unfold H9;rw[hlen];simp only[Af,Aa,Dn,Ao])
 rw[show((0:Int))=((0:Nat):Int)from rfl,hl]
theorem Ku (l:List Am) (h:l.length<=4294967296):Mg (l,())=some (Cg l,()):=by
 have hl:=Fp (B:=Jq) l (fun i=>(l,(i:Int),())) (Tk l) (false,()) ()
  (fun i x hi hx=>by
   have h3:=Awn (q:=fun y:Am=>eqA y.1 y.2.1 x.1 x.2.1) hx (Bci _ _)
   unfold Jq
   simp only[Af,Ag,Aa,E8,Dm hi,A9,B9 hx,Ae,Iv,Cq]
   rw[Bof l h i x hx]
   unfold Tk C5
   simp only[Ae]
   rw[h3]
   cases Ck (x.1,x.2.1,())<;>cases inR x.2.2.1 0 1000000<;>cases inR x.2.2.2.1 0 (IntKind.i64.wrap (3*x.2.2.1))<;>cases D6 (fun _ (y:Am)=>eqA y.1 y.2.1 x.1 x.2.1) (l.take i)<;>first|rfl|(simp only[cond_true,A0v,br,Bool.not_true];rw[w64 zq0];rfl))
  (by unfold Jq;simp only[Af,Aa,Dn,Ao])
 unfold Mg U6 Cg
 simp only[Af,Ag,Aa,E8]
 rw[show((0:Int))=((0:Nat):Int)from rfl,hl]
 simp only[Ae]
 cases decide ((l.length:Int)>8)<;>cases D6 (Tk l) l<;>rfl
theorem Bi5 (l:List Am) (a:A6) (h:l.length<=4294967296): ∃r,Kt (l,()) a=some r/\Ng (l,()) a=some r:=by
 unfold Kt Abf Ng Ue
 simp only[Af,Ag,Aa]
 rw[Xv _ _ h,Aad _ _ h,Uv _ h,Ku _ h]
 simp only[Ae]
 have hb:=Awo (q:=fun x:Am=>eqA x.1 x.2.1 a.1 a.2.1) (l:=l)
 cases Cg l with
 |false=>exact⟨_,rfl,rfl⟩
 |true=>
  by_cases hn:C5 l a<0
  .rw[Al hn];exact⟨_,rfl,rfl⟩
  .rw[Bp hn]
   obtain⟨e,he,_⟩:=Vv (l:=l) (n:=C5 l a) zq0 (by unfold C5;omega)
   rw[he]
   exact⟨_,rfl,rfl⟩
def A55 (l:List Am) (a:A6):Int:=match Kt (l,()) a with|some r=>r.1|none=>0
theorem Blw (l:List Am) (a:A6) (h:l.length<=4294967296):Kt (l,()) a=some (A55 l a,()):=by
 obtain⟨r,h1,h2⟩:=Bi5 l a h
 unfold A55;rw[h1]
def Blx (s:Bs) (a:A6) (n:Int):Bool:=Aqh (s.2.2.2.2.1,s.2.2.2.2.2.1,()) a || decide (A55 s.2.2.2.2.2.2.1 a≥n)
theorem Bcj (s:Bs) (a:A6) (n:YI) (h:Br s<=4294967296):Ad1 s a n=some (Blx s a n.1,()):=by
 simp only[Br]at h
 unfold Ad1 Ao1 Blx
 simp only[Af,Ag,Aa]
 rw[Bch _ _ zq2,Blw _ _ zq0]
 simp only[Ae,Bi3]
theorem E9 {E:Type} {l:List E} {i:Nat} {x:E} (h:l[i]? =some x):l.take i++[x]=l.take (i+1):=by
 rw[List.take_add_one,h];rfl
theorem Ch (b:YBs) (h:b.1.length<=4294967296):Bk b=some b:=by
 unfold Bk Att
 simp only[Aj,Aa,List.length_nil,Nat.zero_add,List.nil_append]
 rw[Al h];rfl
def byt (n:Int) (j:Nat):YB:=(IntKind.u8.wrap (IntKind.i64.wrap ((BitVec.ofInt (IntKind.i64.bits) (Int.fdiv n (2^(min (8*j) IntKind.i64.bits))) &&& BitVec.ofInt (IntKind.i64.bits) (255:Int)).toNat:Nat)),())
def Fk (n:Int) (k i:Nat):List YB:=(List.range i).map fun j=>byt n (k-1-j)
theorem Gd (n:Int) (k i:Nat):(Fk n k i).length=i:=by simp[Fk]
theorem Bqj:Ff=Ep:=rfl
theorem A3s (b:List YB) (n:Int) (k:Nat) (h1:1<=k) (h6:k<=6) (hl:b.length<=1073741824):Ep (b,()) (n,()) ((k:Int),())=some (b++Fk n k k,()):=by
 have hr:=Ct (B:=Wr) k (fun i=>(n,b++Fk n k i,(k:Int)-1-(i:Int),())) (b++Fk n k k,())
  (fun i hi=>by
   unfold Wr
   simp only[Af,Aj,Aa]
   have e:(8:Int)*((k:Int)-1-(i:Int))=((8*(k-1-i):Nat):Int):=by omega
   rw[Al zq0,A9,w64 (n:=8*((k:Int)-1-(i:Int))) zq0,Al zq0,Ba,Al zq4,Ba,w64 (n:=(k:Int)-1-(i:Int)-1) zq0,e,Int.toNat_natCast]
   have e2:(b++Fk n k i)++[byt n (k-1-i)]=b++Fk n k (i+1):=by
    unfold Fk;rw[List.range_succ,List.map_append,List.append_assoc];rfl
   rw[<-e2,show(k:Int)-1-((i+1:Nat):Int)=(k:Int)-1-(i:Int)-1 by omega]
   rfl)
  (by unfold Wr;simp only[Af,Aa,Aj];rw[Bp zq0,Ao])
 unfold Ep Azm
 simp only[Af,Aj,Ag,Aa,List.nil_append,List.length_nil,Nat.zero_add]
 rw[Al zq0,Ba,Bp zq0,Ao,Bp zq0,Ao,w64 zq0]
 have e0:(n,b,(k:Int)-1,())=(n,b++Fk n k 0,(k:Int)-1-((0:Nat):Int),()):=by simp[Fk]
 rw[e0,hr]
 rfl
theorem Bck (b:List YB) (n:Int) (k:Nat) (h1:1<=k) (h6:k<=6) (hl:b.length<=1073741824):Ff (b,()) (n,()) ((k:Int),())=some (b++Fk n k k,()):=by
 rw[Bqj];exact A3s b n k h1 h6 hl
theorem Lb (b:List YB) (n:Int) (hl:b.length<=1073741824):Ep (b,()) (n,()) ((4:Int),())=some (b++Fk n 4 4,()):=A3s b n 4 zq0 zq0 hl
theorem Bhb (b:List YB) (n:Int) (hl:b.length<=1073741824):Ep (b,()) (n,()) ((6:Int),())=some (b++Fk n 6 6,()):=A3s b n 6 zq0 zq0 hl
theorem Oc (b:List YB) (n:Int) (hl:b.length<=1073741824):Ff (b,()) (n,()) ((4:Int),())=some (b++Fk n 4 4,()):=Bck b n 4 zq0 zq0 hl
theorem A56 (b:List YB) (n:Int) (hl:b.length<=1073741824):Ff (b,()) (n,()) ((6:Int),())=some (b++Fk n 6 6,()):=Bck b n 6 zq0 zq0 hl
def cat:List YBs->List YB
 |[]=>[]
 |x::r=>x.1++cat r
theorem Bcl (l:List YBs) (x:YBs):cat (l++[x])=cat l++x.1:=by
 induction l with
 |nil=>simp[cat]
 |cons y r ih=>simp[cat,ih]
theorem Bfw (l:List YBs) (i:Nat):(cat (l.take i)).length<=(cat l).length:=by
 induction l generalizing i with
 |nil=>simp
 |cons y r ih=>cases i with
  |zero=>simp[cat]
  |succ i=>simp[cat];exact ih i
theorem Ht (l:List YBs) (h:(cat l).length<=4294967296) (h2:l.length<=4294967296):Eu (l,())=some (cat l,()):=by
 have hr:=Ct (B:=Nx) l.length (fun i=>(cat (l.take i),l,(l.length:Int),(i:Int),())) (cat l,())
  (fun i hi=>by
   have hx:=List.getElem?_eq_getElem hi
   have h3:=Bfw l (i+1)
   rw[<-E9 hx,Bcl]at h3
   simp only[List.length_append]at h3
   unfold Nx
   simp only[Af,Ag,Aa,Aj,Dm hi,A9,B9 hx,Ae]
   rw[Al zq0,Ba,w64 zq0,<-Bcl,E9 hx]
   rfl)
  (by unfold Nx;simp only[Af,Aa,Dn,Ao,List.take_length])
 unfold Eu Aoy
 simp only[Ag,Aa]
 rw[show Ay Nx ([],l,(l.length:Int),(0:Int),())=some (cat l,())from hr]
 rfl
theorem Aae (n:YI):Ms n=some (inR n.1 4 8,()):=by
 unfold Ms Aow
 simp only[Ag,Aa,Cd,Ae]
theorem Aaf (n:YI):O8 n=some (inR n.1 4 8,()):=by
 unfold O8 Anl
 simp only[Ag,Aa,Cq,Ae]
def Jc (k n:Int):Bool:=bif k==4 then decide (n<=40)else bif k==5 then n==12 else bif k==6 then n==12 else n==4
theorem Bog (k n:YI):Apz k n=some (Jc k.1 n.1,()):=by
 unfold Apz Aox Jc
 simp only[Af,Aa,Aea]
theorem A0w (k n:YI):Xg k n=some (Jc k.1 n.1,()):=by
 unfold Xg Ann Jc
 simp only[Af,Aa,Aea]
theorem Bfx (f g:Ar):Mi f g=some ((f.1==g.1) && ((f.2.1==g.2.1) && ((f.2.2.2.2.1==g.2.2.2.2.1) && ((f.2.2.2.2.2.2.2.1==g.2.2.2.2.2.2.2.1) && ((f.2.2.2.2.2.2.2.2.1==g.2.2.2.2.2.2.2.2.1) && (Dz f.2.2.1 g.2.2.1 && (Dz f.2.2.2.1 g.2.2.2.1 &&
  (Dz f.2.2.2.2.2.1 g.2.2.2.2.2.1 && (Dz f.2.2.2.2.2.2.1 g.2.2.2.2.2.2.1 && (Dz f.2.2.2.2.2.2.2.2.2.1 g.2.2.2.2.2.2.2.2.2.1 && Dz f.2.2.2.2.2.2.2.2.2.2.1 g.2.2.2.2.2.2.2.2.2.2.1))))))))),()):=by
 unfold Mi Acw
 simp only[Af,Ag,Aa,I5,Ae,R8]
def B7 (f:Ar):Bool:=
 bif inR f.1 4 8 then(f.2.1==0) && (((f.2.2.1.length:Int)==0) && (((f.2.2.2.1.length:Int)==12) && ((f.2.2.2.2.1==0) && (((f.2.2.2.2.2.1.length:Int)==0) && (((f.2.2.2.2.2.2.1.length:Int)==0) && (inR f.2.2.2.2.2.2.2.1 0 4294967295 && (inR f.2.2.2.2.2.2.2.2.1 0 281474976710655 &&
  (Jc f.1 (f.2.2.2.2.2.2.2.2.2.1.length:Int) && ((f.2.2.2.2.2.2.2.2.2.2.1.length:Int)==16)))))))))
 else(f.2.2.2.2.2.2.2.1==0) && ((f.2.2.2.2.2.2.2.2.1==0) && (((f.2.2.2.2.2.2.2.2.2.1.length:Int)==0) && (((f.2.2.2.2.2.2.2.2.2.2.1.length:Int)==0) && (((f.2.2.1.length:Int)==12) &&
  (bif f.1==1 then inR f.2.1 1 9 && (((f.2.2.2.1.length:Int)==0) && ((f.2.2.2.2.1==0) && (((f.2.2.2.2.2.1.length:Int)==0) && ((f.2.2.2.2.2.2.1.length:Int)==0))))
   else bif f.1==2 then(f.2.1==0) && (((f.2.2.2.1.length:Int)==12) && (inR f.2.2.2.2.1 0 1000000 && (((f.2.2.2.2.2.1.length:Int)==16) && ((f.2.2.2.2.2.2.1.length:Int)==0))))
   else(f.1==3) && (inR f.2.1 1 9 && (((f.2.2.2.1.length:Int)==12) && (inR f.2.2.2.2.1 0 1000000 && (((f.2.2.2.2.2.1.length:Int)==16) && ((f.2.2.2.2.2.2.1.length:Int)==16))))))))))
theorem Jd (f:Ar):Nd f=some (B7 f,()):=by
 unfold Nd Ajf B7
 simp only[Af,Ag,Aa,Aaf,Cq,A0w,Ae,Aea,bne,Bool.cond_false_right,Bool.cond_true_left,Bool.cond_false_left,Bool.not_not]
theorem Kv (f:Ar):Db f=some (B7 f,()):=by
 obtain⟨kind,id,cn,sn,tick,cookie,proof,epoch,seq,body,tag,_⟩:=f
 unfold Db Ajz B7
 simp only[Af,Ag,Aa,Aae,Cd,Hx,Bog,Bfx,A78,Kk,beq_self_eq_true,Bool.true_and,Bool.and_true,Ae,Aea,Bool.cond_false_right,Bool.cond_true_left,Bool.cond_false_left,Bool.not_not]
 refine congrArg (fun b=>some (b,())) ?_
 by_cases h1:kind=1
 .subst h1
  apply Kj
  simp[inR]
  grind
 .by_cases h2:kind=2
  .subst h2
   apply Kj
   simp[inR]
   grind
  .by_cases h3:kind=3
   .subst h3
    apply Kj
    simp[inR]
    grind
   .have e1:(kind==1)=false:=by simpa using h1
    have e2:(kind==2)=false:=by simpa using h2
    have e3:(kind==3)=false:=by simpa using h3
    rw[e1,e2,e3]
    cases inR kind 4 8 with
    |false=>simp
    |true=>
     cases hb:Jc kind (body.length:Int)with
     |false=>simp
     |true=>
      apply Kj
      simp[inR]
      grind
def Pd (f:Ar):List YB:=
 bif !B7 f then []else
 bif f.1==1 then(IntKind.u8.wrap f.1,())::(IntKind.u8.wrap f.2.1,())::(f.2.2.1++List.replicate 20 ((0:Int),()))
 else bif f.1==2 then(IntKind.u8.wrap f.1,())::(f.2.2.1++(f.2.2.2.1++(Fk f.2.2.2.2.1 4 4++f.2.2.2.2.2.1)))
 else bif f.1==3 then(IntKind.u8.wrap f.1,())::(IntKind.u8.wrap f.2.1,())::(f.2.2.1++(f.2.2.2.1++(Fk f.2.2.2.2.1 4 4++(f.2.2.2.2.2.1++f.2.2.2.2.2.2.1))))
 else(IntKind.u8.wrap f.1,())::(f.2.2.2.1++(Fk f.2.2.2.2.2.2.2.1 4 4++(Fk f.2.2.2.2.2.2.2.2.1 6 6++(f.2.2.2.2.2.2.2.2.2.2.1++f.2.2.2.2.2.2.2.2.2.1))))
theorem Bqk (b:List YB) (hl:b.length<=1073741824):Ay Js (b,(0:Int),())=some (b++List.replicate 20 ((0:Int),()),()):=by
 have hr:=Ct (B:=Js) 20 (fun i=>(b++List.replicate i ((0:Int),()),(i:Int),())) (b++List.replicate 20 ((0:Int),()),())
  (fun i hi=>by
   unfold Js
   simp only[Af,Aj,Aa]
   rw[Al zq0,A9,Al zq1,Ba,w64 zq0,List.append_assoc,<-List.replicate_succ']
   rfl)
  (by unfold Js;simp only[Af,Aa,Aj];rfl)
 simpa using hr
theorem Bi6 (f:Ar) (h:Aq f<=536870912):Lj f=some (Pd f,()):=by
 obtain⟨kind,id,cn,sn,tick,cookie,proof,epoch,seq,body,tag,_⟩:=f
 simp only[Aq]at h
 unfold Lj Afc Pd
 simp only[Af,Ag,Aa,Aj,Jd,Ae]
 cases B7 (kind,id,cn,sn,tick,cookie,proof,epoch,seq,body,tag,PUnit.unit)with
 |false=>rfl
 |true=>
  simp only[Bool.not_true,Ao,cond_false]
  cases kind==1 with
  |true=>
   simp only[A9,cond_true]
   rw[Al zq3,Ba,Al zq1,Ba,Bqk _ zq1]
   simp[ob]
  |false=>
   cases kind==2 with
   |true=>
    simp only[A9,Ao,cond_true,cond_false]
    rw[Al zq1,Ba,Al zq1,Ba,Lb _ _ zq1,Ae,Al zq4,Ba]
    simp
   |false=>
    cases kind==3 with
    |true=>
     simp only[A9,Ao,cond_true,cond_false]
     rw[Al zq3,Ba,Al zq1,Ba,Al zq1,Ba,Lb _ _ zq1,Ae,Al zq4,Ba,Al zq4,Ba]
     simp
    |false=>
     simp only[Ao,cond_false]
     rw[Al zq1,Ba,Lb _ _ zq1,Ae,Bhb _ _ zq4,Ae,Al zq4,Ba,Al zq4,Ba]
     simp
theorem A3t (f:Ar) (h:Aq f<=536870912):El f=some (Pd f,()):=by
 obtain⟨kind,id,cn,sn,tick,cookie,proof,epoch,seq,body,tag,_⟩:=f
 simp only[Aq]at h
 unfold El Aft Pd
 simp only[Af,Ag,Aa,Aj,Kv,Ae]
 cases B7 (kind,id,cn,sn,tick,cookie,proof,epoch,seq,body,tag,PUnit.unit)with
 |false=>rfl
 |true=>
  simp only[Bool.not_true,Ao,cond_false]
  cases kind==1 with
  |true=>
   simp only[A9,cond_true]
   rw[Ht _ zq5 zq3]
   simp[ob,cat]
  |false=>
   cases kind==2 with
   |true=>
    simp only[A9,Ao,cond_true,cond_false]
    rw[Oc _ _ zq3,Ae,Ht _ zq6 zq3]
    simp[ob,cat]
   |false=>
    cases kind==3 with
    |true=>
     simp only[A9,Ao,cond_true,cond_false]
     rw[Oc _ _ zq3,Ae,Ht _ zq6 zq3]
     simp[ob,cat]
    |false=>
     simp only[Ao,cond_false]
     rw[Oc _ _ zq3,Ae,A56 _ _ zq3,Ae,Ht _ zq6 zq3]
     simp[ob,cat]
def m32 (x:Int):Int:=IntKind.i64.wrap ((BitVec.ofInt (IntKind.i64.bits) x &&& BitVec.ofInt (IntKind.i64.bits) (4294967295:Int)).toNat:Nat)
theorem Au9 (x:Int):m32 x=x%4294967296:=by
 have h:((BitVec.ofInt (IntKind.i64.bits) x &&& BitVec.ofInt (IntKind.i64.bits) (4294967295:Int)).toNat:Int)=x%4294967296:=by
  show((BitVec.ofInt 64 x &&& BitVec.ofInt 64 (4294967295:Int)).toNat:Int)=x%4294967296
  rw[BitVec.toNat_and,BitVec.toNat_ofInt,BitVec.toNat_ofInt]
  have e:((4294967295:Int)%((2^64:Nat):Int)).toNat=2^32-1:=by decide
  rw[e,Nat.and_two_pow_sub_one_eq_mod]
  have e2:((2^64:Nat):Int)=18446744073709551616:=by decide
  rw[e2]
  omega
 unfold m32
 rw[h,w64 zq0]
theorem Bs0 (s:Int):IntKind.i64.wrap s%4294967296=s%4294967296:=by rw[IntKind.wrap_i64];omega
theorem Aqi (s:Int):m32 (IntKind.i64.wrap s)=s%4294967296:=by rw[Au9,Bs0]
theorem Bs1 (x:Int):0<=m32 x/\m32 x<=4294967295:=by rw[Au9];omega
theorem Boh (d t:Int):m32 (IntKind.i64.wrap (d+m32 t))=m32 (IntKind.i64.wrap (d+t)):=by rw[Aqi,Aqi,Au9];omega
theorem Boi (t u:Int):m32 (IntKind.i64.wrap (m32 t+m32 u))=m32 (IntKind.i64.wrap (t+u)):=by rw[Aqi,Aqi,Au9,Au9];omega
def Bi7 (x n:Int):Int:=m32 (IntKind.i64.wrap ((BitVec.ofInt (IntKind.i64.bits) (Int.fdiv (m32 x) (2^(min n.toNat IntKind.i64.bits))) ||| BitVec.ofInt (IntKind.i64.bits) (IntKind.i64.wrap (m32 x*2^(min (IntKind.i64.wrap (32-n)).toNat IntKind.i64.bits)))).toNat:Nat))
theorem A3u (x n:YI) (h1:1<=n.1) (h2:n.1<=31):Mj x n=some (Bi7 x.1 n.1,()):=by
 unfold Mj A5k
 simp only[Af,Aj,Aa]
 rw[Bp zq0,Bp zq0,Al zq0,w64 (n:=32-n.1) zq0,Al zq0]
 simp only[Ao,Ba,Bi7]
 rw[w64 (n:=32-n.1) zq0]
 rfl
theorem A3v (x n:YI) (h1:1<=n.1) (h2:n.1<=31):Mf x n=some (Bi7 x.1 n.1,()):=by
 unfold Mf A43
 simp only[Af,Aj,Aa]
 rw[Bp zq0,Bp zq0,Al zq0,w64 (n:=32-n.1) zq0,Al zq0]
 simp only[Ao,Ba,Bi7]
 rw[w64 (n:=32-n.1) zq0]
 rfl
theorem Bhc (a b:YI):Aie a b=some (m32 (IntKind.i64.wrap (a.1+b.1)),()):=rfl
def Acb (l:List YB):Int:=l.foldl (fun n x=>IntKind.i64.wrap (IntKind.i64.wrap (n*256)+IntKind.i64.wrap x.1)) 0
theorem Ay1 (l:List YB) (x:YB):Acb (l++[x])=IntKind.i64.wrap (IntKind.i64.wrap (Acb l*256)+IntKind.i64.wrap x.1):=by simp[Acb]
def A57 (b:List YB) (p k:Int):YI×YI×(Bool×Unit):=
 if 1<=k/\k<=6/\0<=p/\p+k<=b.length then((Acb ((b.drop p.toNat).take k.toNat),()),(p+k,()),(true,()))else((0,()),(0,()),(false,()))
theorem Brw (b:List YB) (p k:Int) (hl:b.length<=4294967296):A0l (b,()) (p,()) (k,())=some (A57 b p k):=by
 unfold A0l Azn A57
 simp only[Af,Ag,Aa]
 by_cases h1:k<1
 .rw[Al h1,A9,if_neg zq0]
 rw[Bp h1,Ao]
 by_cases h2:k>6
 .rw[Al h2,A9,if_neg zq0]
 rw[Bp h2,Ao]
 by_cases h3:p<0
 .rw[Al h3,A9,if_neg zq0]
 rw[Bp h3,Ao,w64 (n:=(b.length:Int)-k) zq0]
 by_cases h4:p>(b.length:Int)-k
 .rw[Al h4,A9,if_neg zq0]
 rw[Bp h4,Ao,if_pos zq0]
 have hr:=Ct (B:=Sw) k.toNat (fun i=>(b,p,k,Acb ((b.drop p.toNat).take i),(i:Int),())) (p,k,Acb ((b.drop p.toNat).take k.toNat),())
  (fun i hi=>by
   have hlt:p.toNat+i<b.length:=by omega
   have hx:=List.getElem?_eq_getElem hlt
   have hx2:(b.drop p.toNat)[i]? =some b[p.toNat+i]:=by rw[List.getElem?_drop];exact hx
   unfold Sw
   simp only[Af,Ag,Aa]
   rw[Al zq0,A9,w64 (n:=p+(i:Int)) zq0,show p+(i:Int)=((p.toNat+i:Nat):Int) by omega,B9 hx,Ae,w64 (n:=(i:Int)+1) zq0,<-E9 hx2,Ay1]
   rfl)
  (by
   unfold Sw
   simp only[Af,Ag,Aa]
   rw[Bp zq0,Ao])
 rw[show Ay Sw (b,p,k,(0:Int),(0:Int),())=_ from hr,Ae]
 simp only
 rw[w64 zq0]
theorem Bs2 (b:List YB) (p n:Int) (hl:b.length<=4294967296):A5z (b,()) (p,()) (n,())=some (if 0<=p/\0<=n/\p+n<=b.length then(((b.drop p.toNat).take n.toNat,()),(true,()))else(([],()),(false,()))):=by
 unfold A5z A5h
 simp only[Af,Aj,Aa]
 by_cases h1:p<0
 .rw[Al h1,A9,if_neg zq0]
 rw[Bp h1,Ao]
 by_cases h2:n<0
 .rw[Al h2,A9,if_neg zq0]
 rw[Bp h2,Ao]
 by_cases h3:p>(b.length:Int)
 .rw[Al h3,A9,if_neg zq0]
 rw[Bp h3,Ao,w64 (n:=(b.length:Int)-p) zq0]
 by_cases h4:n>(b.length:Int)-p
 .rw[Al h4,A9,if_neg zq0]
 rw[Bp h4,Ao,if_pos zq0,w64 (n:=p+n) zq0,Al zq0,Al zq0,Al zq0,Al zq1]
 simp only[Ba,List.nil_append]
 rw[show(p+n).toNat=p.toNat+n.toNat by omega,List.drop_take,Nat.add_sub_cancel_left]
theorem Bly (b:List YB) (p k:Int) (hl:b.length<=4294967296):Apy (b,()) (p,()) (k,())=some (A57 b p k):=by
 unfold Apy Az5 A57
 simp only[Af,Ag,Aa]
 by_cases h1:k<1
 .rw[Al h1,A9,if_neg zq0]
 rw[Bp h1,Ao]
 by_cases h2:k>6
 .rw[Al h2,A9,if_neg zq0]
 rw[Bp h2,Ao,Bs2 _ _ _ hl,Ae]
 by_cases h3:0<=p/\0<=k/\p+k<=b.length
 .rw[if_pos h3,if_pos zq0]
  simp only[Bool.not_true,Ao]
  have hlen:((b.drop p.toNat).take k.toNat).length=k.toNat:=by simp;omega
  have hr:=Ct (B:=S9) k.toNat (fun i=>(p,k,Acb (((b.drop p.toNat).take k.toNat).take i),(b.drop p.toNat).take k.toNat,(((b.drop p.toNat).take k.toNat).length:Int),(i:Int),())) (p,k,Acb ((b.drop p.toNat).take k.toNat),())
   (fun i hi=>by
    have hx:=List.getElem?_eq_getElem (show i<((b.drop p.toNat).take k.toNat).length by omega)
    unfold S9
    simp only[Af,Ag,Aa]
    rw[Al zq0,A9,B9 hx,Ae,w64 (n:=(i:Int)+1) zq0,<-E9 hx,Ay1,Int.mul_comm 256]
    rfl)
   (by
    unfold S9
    simp only[Af,Ag,Aa]
    rw[Bp zq0,Ao,List.take_take,Nat.min_self])
  rw[show Ay S9 (p,k,(0:Int),(b.drop p.toNat).take k.toNat,(((b.drop p.toNat).take k.toNat).length:Int),(0:Int),())=_ from hr,Ae]
  simp only
  rw[w64 zq0]
 .rw[if_neg h3,if_neg zq0]
  rfl
theorem Aqj {E:Type} {l z:List E} {n:Int} (h0:0<=n) (h1:n<l.length):idx (l++z) n=idx l n:=by
 unfold idx
 rw[if_pos h0,if_pos h0,List.getElem?_append_left zq0]
theorem A8a {l:List YI} {i k:Nat} (h:l.length=i) (hk:i<k) (x:YI):(l++List.replicate (k-i) ((0:Int),())).set i x=(l++[x])++List.replicate (k-(i+1)) ((0:Int),()):=by
 rw[List.set_append_right _ _ zq0,h,Nat.sub_self,show k-i=(k-(i+1))+1 by omega,List.replicate_succ,List.set_cons_zero]
 simp
theorem Bcm {l:List YI} {i k:Nat} (h:l.length=i) (hk:i<k):idx (l++List.replicate (k-i) ((0:Int),())) (i:Int)=some ((0:Int),()):=by
 rw[Bi2,List.getElem?_append_right zq0,h,Nat.sub_self,List.getElem?_replicate,if_pos zq0]
theorem Bfy (b:List YB) (hl:b.length<=4294967296): ∃r,Ags (b,())=some (r,())/\Agh (b,())=some (r,())/\(b.length=64->r.length=64):=by
 unfold Ags W5 Agh Ws
 simp only[Af,Ag,Aa]
 by_cases h:b.length=64
 .rw[Di (by simp[h]),Di (by simp[h])]
  obtain⟨o1,o2,h1,h2,hq⟩:=Vu (B1:=K6) (B2:=Kx)
   (fun i d1 d2=>∃l:List YI,l.length=i/\d1=(b,l++List.replicate (64-i) ((0:Int),()),(i:Int),())/\d2=(b,l,(i:Int),()))
   (fun o1 o2=>o2.1.length=16/\o1=(o2.1++List.replicate 48 ((0:Int),()),())) 16
   (by
    rintro i d1 d2 hi ⟨l,hll,rfl,rfl⟩
    left
    unfold K6 Kx
    simp only[Af,Ag,Aa,Aj]
    rw[Al zq0,A9,A9,w64 (n:=4*(i:Int)) zq0,Bly _ _ _ hl,Brw _ _ _ hl,Ae,Ae,Bcm hll zq0,Ae,Al zq1,Ba,w64 zq0,Int.toNat_natCast,A8a hll zq0]
    exact⟨_,_,rfl,rfl,l++[(A57 b (4*(i:Int)) 4).1],by simp[hll],rfl,rfl⟩)
   (by
    rintro d1 d2 ⟨l,hll,rfl,rfl⟩
    unfold K6 Kx
    simp only[Af,Ag,Aa,Aj]
    rw[Bp zq0,Ao,Ao]
    exact⟨_,_,rfl,rfl,hll,by simp only[Nat.reduceSub]⟩)
   (d1:=(b,List.replicate 64 ((0:Int),()),(0:Int),())) (d2:=(b,[],(0:Int),())) ⟨[],rfl,by simp only[Nat.sub_zero,List.nil_append,Int.natCast_zero],by simp only[Int.natCast_zero]⟩
  rw[show(64:Int).toNat=64 from rfl,h1,h2,Ae,Ae]
  obtain⟨hq1,rfl⟩:=hq
  obtain⟨o3,o4,h3,h4,hq⟩:=Vu (B1:=K7) (B2:=Jp)
   (fun i d1 d2=>∃l:List YI,l.length=16+i/\d1=(l++List.replicate (64-(16+i)) ((0:Int),()),((16+i:Nat):Int),())/\d2=(l,((16+i:Nat):Int),()))
   (fun o1 o2=>o1=o2/\o2.1.length=64) 48
   (by
    rintro i d1 d2 hi ⟨l,hll,rfl,rfl⟩
    left
    obtain⟨e1,g1,_⟩:=Vv (l:=l) (n:=((16+i:Nat):Int)-15) zq0 zq0
    obtain⟨e2,g2,_⟩:=Vv (l:=l) (n:=((16+i:Nat):Int)-2) zq0 zq0
    obtain⟨e3,g3,_⟩:=Vv (l:=l) (n:=((16+i:Nat):Int)-7) zq0 zq0
    obtain⟨e4,g4,_⟩:=Vv (l:=l) (n:=((16+i:Nat):Int)-16) zq0 zq0
    unfold K7 Jp
    simp only[Af,Ag,Aa,Aj]
    rw[Al zq0,A9,A9,w64 (n:=((16+i:Nat):Int)-15) zq0,w64 (n:=((16+i:Nat):Int)-2) zq0,w64 (n:=((16+i:Nat):Int)-7) zq0,w64 (n:=((16+i:Nat):Int)-16) zq0,
     w64 (n:=((16+i:Nat):Int)+1) zq0]
    rw[Aqj zq0 zq0,g1,Ae,Aqj zq0 zq0,g2,Ae,A3u _ _ zq7 zq7,Ae,A3u _ _ zq7 zq7,Ae,A3u _ _ zq7 zq7,Ae,A3u _ _ zq7 zq7,Ae,Aqj zq0 zq0,g3,Ae,Aqj zq0 zq0,g4,Ae,Bcm hll zq0,Ae]
    rw[Ae,Ae,A3v _ _ zq7 zq7,Ae,A3v _ _ zq7 zq7,Ae,A3v _ _ zq7 zq7,Ae,A3v _ _ zq7 zq7,Ae,Ae,Ae,Int.toNat_natCast]
    generalize IntKind.i64.wrap (((BitVec.ofInt _ _ &&& BitVec.ofInt _ (4294967295:Int)).toNat:Nat):Int)=z
    rw[Al (by rw[List.length_singleton];omega),Ba,A8a hll zq0]
    exact⟨_,_,rfl,rfl,_,by simp[hll];omega,rfl,rfl⟩)
   (by
    rintro d1 d2 ⟨l,hll,rfl,rfl⟩
    unfold K7 Jp
    simp only[Af,Ag,Aa,Aj]
    rw[Bp zq0,Ao,Ao]
    exact⟨_,_,rfl,rfl,by simp,by omega⟩)
   (d1:=(o2.1++List.replicate 48 ((0:Int),()),(16:Int),())) (d2:=(o2.1,(16:Int),())) ⟨o2.1,hq1,by simp only[Nat.add_zero,Nat.reduceSub];rfl,rfl⟩
  rw[h3,h4]
  obtain⟨rfl,hq2⟩:=hq
  exact⟨o3.1,rfl,rfl,fun _=>hq2⟩
 .have h': ¬((b.length:Int)=64):=by omega
  rw[E0 (by simpa using h'),E0 (by simpa using h')]
  exact⟨[],rfl,rfl,fun h2=>(h h2).elim⟩
def kL:List YI:=Uj.map fun x=>(x,())
theorem Bs3:Bg5=some (kL,()):=rfl
theorem Bfz (n:YI):Asg n=some (Ab1 n.1,()):=rfl
theorem Bs4 (i:Nat) (h:i<64):idx kL (i:Int)=some (Ab1 (i:Int),()):=by
 rw[Bi2]
 unfold kL Ab1
 rw[List.getElem?_map,if_pos zq0,Int.toNat_natCast]
 have:i<Uj.length:=by simpa [Uj] using h
 rw[List.getElem?_eq_getElem this];rfl
theorem Blz (l:List YI) (hl:l.length<=4294967296):Akh (l,())=some (Gm l && ((l.length:Int)==8),()):=by
 have h:=Fp (B:=Pr) l (fun i=>(l,(i:Int),())) (fun _ e=> !inR e.1 0 4294967295) (false,()) (l,())
  (fun i x hi hx=>by
   unfold Pr
   simp (disch:=omega) only[Af,Ag,Aa,Dm hi,A9,B9 hx,Ae,Cq,w64]
   rfl)
  (by unfold Pr;simp only[Af,Ag,Aa,Dn,Ao])
 unfold Akh Ai9
 simp only[Ag,E8,Aa]
 rw[show((0:Int))=((0:Nat):Int)from rfl,h]
 unfold Gm
 cases D6 (fun _ (e:YI)=> !inR e.1 0 4294967295) l<;>rfl
theorem Bl0 (x:BitVec IntKind.i64.bits):BitVec.ofInt (IntKind.i64.bits) (4294967295:Int) ^^^ x=x ^^^ BitVec.ofInt (IntKind.i64.bits) (4294967295:Int):=BitVec.xor_comm _ _
theorem Aeb {l:List YI}:Gm l=true↔ ∀(j:Nat) (x:YI),l[j]? =some x->0<=x.1/\x.1<=4294967295:=by
 unfold Gm
 rw[G8]
 simp only[Bool.not_eq_false',Bj]
theorem Bl1 (h out w:List YI) (hw:w.length=64) (a b c d e f g z:Int):
  ∃a' b' c' d' e' f' g' z',Ay Iu (h,out,w,a,b,c,d,e,f,g,z,(0:Int),())=some (h,out,a',b',c',d',e',f',g',z',())/\
   Ay Is (h,out,kL,w,a,b,c,d,e,f,g,z,(0:Int),())=some (h,out,a',b',c',d',e',f',g',z',()):=by
 obtain⟨o1,o2,h1,h2,hq⟩:=Vu (B1:=Iu) (B2:=Is)
  (fun i d1 d2=>∃a b c d e f g z:Int,d1=(h,out,w,a,b,c,d,e,f,g,z,(i:Int),())/\d2=(h,out,kL,w,a,b,c,d,e,f,g,z,(i:Int),()))
  (fun o1 o2=>o1=o2/\ ∃a b c d e f g z:Int,o1=(h,out,a,b,c,d,e,f,g,z,())) 64
  (by
   rintro i d1 d2 hi ⟨a,b,c,d,e,f,g,z,rfl,rfl⟩
   left
   obtain⟨x,hx⟩: ∃x,w[i]? =some x:=⟨_,List.getElem?_eq_getElem zq0⟩
   have hk:=Bs4 i hi
   unfold Iu Is
   simp only[Af,Ag,Aa,Aj]
   rw[Al zq0,A9,A9]
   simp (disch:=decide) only[A3u,A3v,Ae,Bfz,B9 hx,hk,Bhc,Bl0]
   rw[w64 (n:=(i:Int)+1) zq0]
   refine⟨_,_,rfl,rfl,_,_,_,_,_,_,_,_,rfl,?_⟩
   simp only[Prod.mk.injEq,true_and,and_true]
   exact⟨Boi _ _,Boh _ _,by omega⟩)
  (by
   rintro d1 d2 ⟨a,b,c,d,e,f,g,z,rfl,rfl⟩
   unfold Iu Is
   simp only[Af,Ag,Aa,Aj]
   exact⟨_,_,rfl,rfl,rfl,_,_,_,_,_,_,_,_,rfl⟩)
  (d1:=(h,out,w,a,b,c,d,e,f,g,z,(0:Int),())) (d2:=(h,out,kL,w,a,b,c,d,e,f,g,z,(0:Int),())) ⟨a,b,c,d,e,f,g,z,rfl,rfl⟩
 obtain⟨rfl,a',b',c',d',e',f',g',z',rfl⟩:=hq
 exact⟨_,_,_,_,_,_,_,_,h1,h2⟩
theorem Bql (h l:List YI) (hh:h.length=8) (hl:l.length=8): ∃r:List YI,r.length=8/\Gm r=true/\Ay Ib (h,h,l,(l.length:Int),(0:Int),())=some (r,())/\Ay H8 (h,h,l,(0:Int),())=some (r,()):=by
 obtain⟨o1,o2,h1,h2,hq⟩:=Vu (B1:=Ib) (B2:=H8)
  (fun i d1 d2=>∃out:List YI,out.length=8/\(∀j x,j<i->out[j]? =some x->0<=x.1/\x.1<=4294967295)/\d1=(h,out,l,(l.length:Int),(i:Int),())/\d2=(h,out,l,(i:Int),()))
  (fun o1 o2=>o1=o2/\o1.1.length=8/\Gm o1.1=true) 8
  (by
   rintro i d1 d2 hi ⟨out,ho,hb,rfl,rfl⟩
   left
   obtain⟨x,hx⟩: ∃x,h[i]? =some x:=⟨_,List.getElem?_eq_getElem zq0⟩
   obtain⟨y,hy⟩: ∃y,l[i]? =some y:=⟨_,List.getElem?_eq_getElem zq0⟩
   obtain⟨q,hq⟩: ∃q,out[i]? =some q:=⟨_,List.getElem?_eq_getElem zq0⟩
   unfold Ib H8
   simp only[Af,Ag,Aa,Aj]
   rw[Al zq0,Al zq0,A9,A9]
   simp only[B9 hx,B9 hy,B9 hq,Ae,Bhc,Int.toNat_natCast]
   rw[w64 (n:=(i:Int)+1) zq0]
   refine⟨_,_,rfl,rfl,out.set i (m32 (IntKind.i64.wrap (x.1+y.1)),()),by simp[ho],fun j v hj hv=>?_,rfl,rfl⟩
   rw[List.getElem?_set]at hv
   split at hv
   .rename_i e
    subst e
    split at hv
    .simp at hv;subst hv;exact Bs1 _
    .cases hv
   .exact hb j v zq0 hv)
  (by
   rintro d1 d2 ⟨out,ho,hb,rfl,rfl⟩
   unfold Ib H8
   simp only[Af,Ag,Aa,Aj]
   rw[Bp zq0,Ao]
   refine⟨_,_,rfl,rfl,rfl,ho,?_⟩
   rw[Aeb]
   intro j x hx
   exact hb j x (by have:=(List.getElem?_eq_some_iff.1 hx).1;dsimp only at this;omega) hx)
  (d1:=(h,h,l,(l.length:Int),(0:Int),())) (d2:=(h,h,l,(0:Int),())) ⟨h,hh,fun j x hj=>by omega,rfl,rfl⟩
 obtain⟨rfl,hq1,hq2⟩:=hq
 exact⟨o1.1,hq1,hq2,h1,h2⟩
theorem Aks (h:List YI) (b:List YB) (hh:h.length<=1073741824) (hb:b.length<=4294967296):
  ∃r,Rx (h,()) (b,())=some (r,())/\Xf (h,()) (b,())=some (r,())/\r.length=h.length/\(Gm h=true->Gm r=true):=by
 obtain⟨w,hw1,hw2,hw3⟩:=Bfy b hb
 unfold Rx W6 Xf Wt
 simp only[Af,Ag,Aa,Aj,List.nil_append,List.length_nil,Nat.zero_add]
 rw[Al zq0,Ba,Ba,Aqg _ _ zq0,Blz _ zq0,Ae,Ae]
 cases hwb:(Gm h && ((h.length:Int)==8))with
 |false=>exact⟨h,rfl,rfl,rfl,id⟩
 |true=>
  have hlen:h.length=8:=by simp at hwb;omega
  have hwd:Gm h=true:=by simp at hwb;exact hwb.1
  simp only[Bool.not_true,Ao]
  by_cases hb64:b.length=64
  .rw[Di (by simp[hb64]),Di (by simp[hb64]),hw1,hw2,Bs3]
   simp only[Ae]
   match h,hlen with
   |[x0,x1,x2,x3,x4,x5,x6,x7],_=>
    simp only[show idx [x0,x1,x2,x3,x4,x5,x6,x7] (0:Int)=some x0 from rfl,show idx [x0,x1,x2,x3,x4,x5,x6,x7] (1:Int)=some x1 from rfl,show idx [x0,x1,x2,x3,x4,x5,x6,x7] (2:Int)=some x2 from rfl,show idx [x0,x1,x2,x3,x4,x5,x6,x7] (3:Int)=some x3 from rfl,
     show idx [x0,x1,x2,x3,x4,x5,x6,x7] (4:Int)=some x4 from rfl,show idx [x0,x1,x2,x3,x4,x5,x6,x7] (5:Int)=some x5 from rfl,show idx [x0,x1,x2,x3,x4,x5,x6,x7] (6:Int)=some x6 from rfl,show idx [x0,x1,x2,x3,x4,x5,x6,x7] (7:Int)=some x7 from rfl,Ae]
    obtain⟨a',b',c',d',e',f',g',z',q1,q2⟩:=Bl1 [x0,x1,x2,x3,x4,x5,x6,x7] [x0,x1,x2,x3,x4,x5,x6,x7] w (hw3 hb64) x0.1 x1.1 x2.1 x3.1 x4.1 x5.1 x6.1 x7.1
    rw[q1,q2]
    simp only[Ae]
    obtain⟨r,r1,r2,r3,r4⟩:=Bql [x0,x1,x2,x3,x4,x5,x6,x7] [(a',()),(b',()),(c',()),(d',()),(e',()),(f',()),(g',()),(z',())] rfl rfl
    rw[r3,r4]
    exact⟨r,rfl,rfl,r1,fun _=>r2⟩
  .have h': ¬((b.length:Int)=64):=by omega
   rw[E0 (by simpa using h'),E0 (by simpa using h')]
   exact⟨h,rfl,rfl,rfl,id⟩
def J3 (h:List YI) (b:List YB):List YI:=match Rx (h,()) (b,())with|some r=>r.1|none=>[]
theorem Bi8 (h:List YI) (b:List YB) (hh:h.length<=1073741824) (hb:b.length<=4294967296):Rx (h,()) (b,())=some (J3 h b,()):=by
 obtain⟨r,h1,h2,_⟩:=Aks h b hh hb
 unfold J3;rw[h1]
theorem Bi9 (h:List YI) (b:List YB) (hh:h.length<=1073741824) (hb:b.length<=4294967296):Xf (h,()) (b,())=some (J3 h b,()):=by
 obtain⟨r,h1,h2,_⟩:=Aks h b hh hb
 unfold J3;rw[h1,h2]
theorem Agz (h:List YI) (b:List YB) (hh:h.length<=1073741824) (hb:b.length<=4294967296):(J3 h b).length=h.length/\(Gm h=true->Gm (J3 h b)=true):=by
 obtain⟨r,h1,h2,h3,h4⟩:=Aks h b hh hb
 unfold J3;rw[h1];exact⟨h3,h4⟩
def Im (h:List YI) (b:List YB):List YI×List YB:=if 64<=b.length then Im (J3 h (b.take 64)) (b.drop 64)else(h,b)
termination_by b.length
decreasing_by simp;omega
theorem Acc {h:List YI} {b:List YB} (hb:64<=b.length):Im h b=Im (J3 h (b.take 64)) (b.drop 64):=by rw[Im,if_pos hb]
theorem Oq {h:List YI} {b:List YB} (hb: ¬64<=b.length):Im h b=(h,b):=by rw[Im,if_neg hb]
theorem Boj: ∀(n:Nat) (h:List YI) (b p:List YB),b.length<=n->Im h (b++p)=Im (Im h b).1 ((Im h b).2++p):=by
 intro n
 induction n with
 |zero=>intro h b p hn;rw[Oq (b:=b) zq0]
 |succ n ih=>
  intro h b p hn
  by_cases hb:64<=b.length
  .rw[Acc (b:=b) hb,Acc (b:=b++p) zq1,List.take_append_of_le_length hb,List.drop_append_of_le_length hb]
   exact ih _ _ _ zq1
  .rw[Oq (b:=b) hb]
theorem Amh: ∀(n:Nat) (h:List YI) (b:List YB),b.length<=n->h.length<=1073741824->(Im h b).2.length=b.length%64/\(Im h b).1.length=h.length/\(Gm h=true->Gm (Im h b).1=true):=by
 intro n
 induction n with
 |zero=>intro h b hn hh;rw[Oq zq0];exact⟨by simp;omega,rfl,id⟩
 |succ n ih=>
  intro h b hn hh
  by_cases hb:64<=b.length
  .rw[Acc hb]
   have hc:=Agz h (b.take 64) hh zq1
   obtain⟨h1,h2,h3⟩:=ih (J3 h (b.take 64)) (b.drop 64) zq1 zq0
   refine⟨?_,by omega,fun hw=>h3 (hc.2 hw)⟩
   rw[h1,List.length_drop];omega
  .rw[Oq hb];exact⟨by simp only;omega,rfl,id⟩
theorem Asj (h:List YI) (b:List YB) (hh:h.length<=1073741824) (hb:b.length<=4294967296):Qw (h,()) (b,())=some (((Im h b).1,()),((Im h b).2,())):=by
 have key: ∀(n:Nat) (h:List YI) (b:List YB),b.length<=n->h.length<=1073741824->b.length<=4294967296->Ay G6 (h,b,())=some ((Im h b).1,(Im h b).2,()):=by
  intro n
  induction n with
  |zero=>
   intro h b hn hh hb
   rw[Oq zq0,Eg]
   unfold G6
   simp only[Af,Aj,Ag,Aa]
   rw[Bp zq0,Ao]
  |succ n ih=>
   intro h b hn hh hb
   rw[Eg]
   by_cases h64:64<=b.length
   .have hB:G6 (h,b,())=some (.inl (J3 h (b.take 64),b.drop 64,())):=by
     unfold G6
     simp only[Af,Aj,Ag,Aa]
     rw[Al zq0,A9,Al zq0]
     simp only[Ba,show(64:Int).toNat=64 from rfl,show(0:Int).toNat=0 from rfl,List.drop_zero,Int.toNat_natCast,List.take_length]
     rw[Bi8 _ _ hh zq1,Ae]
    have hc:=Agz h (b.take 64) hh zq1
    rw[hB,Acc h64,<-ih (J3 h (b.take 64)) (b.drop 64) zq1 zq0 zq1]
   .unfold G6
    simp only[Af,Aj,Ag,Aa]
    rw[Bp zq0,Ao,Oq h64]
 unfold Qw W8
 simp only[Ag,Aa]
 rw[key _ h b (Nat.le_refl _) hh hb]
 rfl
theorem Bl2 (all:List YB) (ha:all.length<=4294967296): ∀(n i:Nat) (h:List YI),all.length-i<=n->i<=all.length->(all.length-i)%64=0->h.length<=1073741824->Ay V6 (all,h,(i:Int),())=some ((Im h (all.drop i)).1,()):=by
 intro n
 induction n with
 |zero=>
  intro i h hn hi hm hh
  rw[Oq zq1,Eg]
  unfold V6
  simp only[Af,Aj,Ag,Aa]
  rw[Bp zq0,Ao]
 |succ n ih=>
  intro i h hn hi hm hh
  rw[Eg]
  unfold V6
  simp only[Af,Aj,Ag,Aa]
  by_cases h64:i<all.length
  .rw[Al zq0,A9,Al zq0,Ba,w64 (n:=(i:Int)+64) zq0,Al zq0,Ba,Al zq0,Ba]
   have e:(all.take ((i:Int)+64).toNat).drop ((i:Int)).toNat=(all.drop i).take 64:=by
    rw[show((i:Int)+64).toNat=i+64 by omega,Int.toNat_natCast,List.drop_take,Nat.add_sub_cancel_left]
   rw[e,Bi9 _ _ hh zq1,Ae]
   simp only
   have hc:=Agz h ((all.drop i).take 64) hh zq1
   rw[Acc (b:=all.drop i) zq1,List.drop_drop,show(i:Int)+64=((i+64:Nat):Int) by omega]
   exact ih (i+64) _ zq0 zq0 zq0 zq0
  .rw[Bp zq0,Ao,Oq zq1]
theorem Bcn (m:Int) (j:Nat) (h0:0<=m) (h1:m<4294967296) (hj:4<=j) (hj2:j<=7):byt m j=((0:Int),()):=by
 have e:Int.fdiv m (2^(min (8*j) IntKind.i64.bits))=0:=by
  have hp:(4294967296:Int)<=2^(min (8*j) IntKind.i64.bits):=by
   have:j=4\/j=5\/j=6\/j=7:=by omega
   rcases this with rfl|rfl|rfl|rfl<;>decide
  rw[Int.fdiv_eq_ediv_of_nonneg _ zq0]
  exact Int.ediv_eq_zero_of_lt h0 zq0
 unfold byt
 rw[e];rfl
def Akt (n:Nat):Nat:=(64-(n+9)%64)%64
def Aag (n:Nat):List YB:=(((128:Int),())::List.replicate (Akt n) ((0:Int),()))++([((0:Int),()),((0:Int),())]++Fk (8*(n:Int)) 6 6)
theorem Bco (n:Nat):(Aag n).length=Akt n+9:=by simp[Aag,Gd]
theorem Bhd (n:Nat) (h:n<=1048576):Ay Rp ((n:Int),[((128:Int),())],())=some ((n:Int),((128:Int),())::List.replicate (Akt n) ((0:Int),()),()):=by
 have hk:Akt n=(64-(n+9)%64)%64:=rfl
 refine Ct (B:=Rp) (Akt n) (fun i=>((n:Int),((128:Int),())::List.replicate i ((0:Int),()),())) _ (fun i hi=>?_) ?_
 .unfold Rp
  simp only[Af,Aj,Aa,List.length_cons,List.length_replicate]
  rw[w64 (n:=(n:Int)+((i+1:Nat):Int)) zq0,w64 zq0,Al zq0,Ba,E0 zq1,Al zq1,Ba,List.cons_append,<-List.replicate_succ']
 .unfold Rp
  simp only[Af,Aj,Aa,List.length_cons,List.length_replicate]
  rw[w64 (n:=(n:Int)+((Akt n+1:Nat):Int)) zq0,w64 zq0,Al zq0,Ba,Di zq1]
theorem Bs5 (n:Nat) (h:n<=1048576):A50 ((n:Int),())=some (Aag n,()):=by
 have hk:Akt n<64:=Nat.mod_lt _ zq0
 unfold A50 A5m
 simp only[Af,Aj,Ag,Aa,Cd,Ae]
 rw[Di zq8,Bhd n h,Ae,Al zq1,Ba,w64 zq0,A56 _ _ zq1,Ae]
 unfold Aag
 simp
theorem Bs6 (n:Nat) (h:n<=1048576):A5y ((n:Int),())=some (Aag n,()):=by
 have hk:Akt n<64:=Nat.mod_lt _ zq0
 unfold A5y A41
 simp only[Af,Aj,Ag,Aa,Ae]
 rw[Bp zq0,Ao,Bp zq0,Ao,show Ass=Rp from rfl,Bhd n h,Ae,Lb _ _ zq1,Ae,Lb _ _ zq4,Ae,w64 zq0]
 unfold Aag
 have e0:Fk 0 4 4=[((0:Int),()),((0:Int),()),((0:Int),()),((0:Int),())]:=by
  unfold Fk
  simp only[show List.range 4=[0,1,2,3]from rfl,List.map]
  rfl
 have e6:Fk (8*(n:Int)) 6 6=[((0:Int),()),((0:Int),())]++Fk (8*(n:Int)) 4 4:=by
  have a:=Bcn (8*(n:Int)) 5 zq0 zq0 zq0 zq0
  have b:=Bcn (8*(n:Int)) 4 zq0 zq0 zq0 zq0
  unfold Fk
  simp only[show List.range 4=[0,1,2,3]from rfl,show List.range 6=[0,1,2,3,4,5]from rfl,List.map]
  rw[show 6-1-0=5 from rfl,show 6-1-1=4 from rfl,a,b]
  rfl
 rw[e0,e6]
 simp
def Aah (l:List YI):List YB:=l.flatMap fun x=>Fk x.1 4 4
theorem Aqk (l:List YI):(Aah l).length=4*l.length:=by
 unfold Aah
 induction l with
 |nil=>rfl
 |cons x r ih=>simp only[List.flatMap_cons,List.length_append,Gd,ih,List.length_cons];omega
theorem A8b (l:List YI) (x:YI):Aah (l++[x])=Aah l++Fk x.1 4 4:=by simp[Aah]
theorem Bf0 (l:List YI) (h:l.length<=1048576):Ada (l,())=some (Aah l,()):=by
 have hr:=Ct (B:=Jv) l.length (fun i=>(Aah (l.take i),l,(l.length:Int),(i:Int),())) (Aah l,())
  (fun i hi=>by
   have hx:=List.getElem?_eq_getElem hi
   unfold Jv
   simp only[Af,Ag,Aa,Dm hi,A9,B9 hx,Ae]
   rw[Oc _ _ (by rw[Aqk];simp;omega),Ae,w64 zq0,<-E9 hx,A8b]
   rfl)
  (by unfold Jv;simp only[Af,Aa,Dn,Ao,List.take_length])
 unfold Ada Acx
 simp only[Ag,Aa]
 rw[show Ay Jv ([],l,(l.length:Int),(0:Int),())=_ from hr]
 rfl
theorem Bqm (l:List YI) (h:l.length=8):Aur (l,())=some (Aah l,()):=by
 have hr:=Ct (B:=Qe) 8 (fun i=>(l,Aah (l.take i),(i:Int),())) (Aah l,())
  (fun i hi=>by
   have hx:=List.getElem?_eq_getElem (show i<l.length by omega)
   unfold Qe
   simp only[Af,Ag,Aa]
   rw[Al zq0,A9,B9 hx,Ae,Lb _ _ (by rw[Aqk];simp;omega),Ae,w64 zq0,<-E9 hx,A8b]
   rfl)
  (by unfold Qe;simp only[Af,Aa];rw[Bp zq0,Ao,<-h,List.take_length])
 unfold Aur Asv
 simp only[Ag,Aa]
 rw[show Ay Qe (l,[],(0:Int),())=_ from hr]
 rfl
def Gn:List YI:=[((1779033703:Int),()),((3144134277:Int),()),((1013904242:Int),()),((2773480762:Int),()),((1359893119:Int),()),((2600822924:Int),()),((528734635:Int),()),((1541459225:Int),())]
theorem Bl3:Gm Gn=true:=by decide
def Ava (h:Qv):Bool:=(Gm h.1 && ((h.1.length:Int)==8)) && (inR h.2.2.1 0 1048576 && ((h.2.2.1%64)==(h.2.1.length:Int)))
theorem Bcp (h:Qv) (hl:h.1.length<=4294967296):Ad2 h=some (Ava h,()):=by
 unfold Ad2 Ao3 Ava
 simp only[Af,Aj,Ag,Aa,Cd,Ae]
 rw[Aqg _ _ hl,Ae]
 cases (Gm h.1 && ((h.1.length:Int)==8))with
 |false=>rfl
 |true=>
  cases hn:inR h.2.2.1 0 1048576 with
  |false=>rfl
  |true=>
   have:=Bj.1 hn
   simp only[A9]
   rw[Al zq0,Ba]
   simp
def sha (b:List YB):List YB:=if b.length<=1048576 then Aah (Im Gn (b++Aag b.length)).1 else []
theorem Bhe (b:List YB):(sha b).length=32\/(sha b).length=0:=by
 unfold sha
 split
 .left
  rw[Aqk,(Amh _ Gn _ (Nat.le_refl _) zq7).2.1];rfl
 .right;rfl
theorem Bja (b:List YB):Al6 (b,())=some (sha b,()):=by
 unfold Al6 A45 sha
 simp only[Af,Aj,Ag,Aa,List.nil_append,List.length_nil,Nat.zero_add]
 by_cases h:b.length<=1048576
 .have hp:=Bco b.length
  have hk:Akt b.length=(64-(b.length+9)%64)%64:=rfl
  have hl:=Bl2 (b++Aag b.length) zq1 (b++Aag b.length).length 0 Gn zq0 zq0 zq1 zq7
  rw[List.drop_zero]at hl
  rw[Bp zq0,Ao,Al zq0,Ba,Bs6 _ h,Ae,Al zq1,Ba,show A75=some (Gn,())from rfl,Ae]
  rw[show Ay V6 (b++Aag b.length,Gn,(0:Int),())=_ from hl,Ae]
  rw[Bqm _ ((Amh _ Gn _ (Nat.le_refl _) zq7).2.1),if_pos h]
  rfl
 .rw[Al zq0,A9,if_neg h]
theorem Bjb (b:List YB) (hb:b.length<=4294967296):Al7 (b,())=some (sha b,()):=by
 unfold Al7 A5p sha
 simp only[Af,Ag,Aa]
 by_cases h:b.length<=1048576
 .have hp:=Bco b.length
  have hk:Akt b.length=(64-(b.length+9)%64)%64:=rfl
  have hc:=Amh _ Gn b (Nat.le_refl _) zq7
  have h8:Gn.length=8:=rfl
  have hc21:=hc.2.1
  have hc1:=hc.1
  have e1:Akl (Gn,[],0,()) (b,())=some ((Im Gn b).1,(Im Gn b).2,(b.length:Int),()):=by
   unfold Akl Aj1
   simp only[Af,Aj,Ag,Aa,List.nil_append,List.length_nil,Nat.zero_add]
   rw[Bcp _ zq7,Ae,show Ava (Gn,[],0,())=true by decide]
   simp only[Bool.not_true,Ao]
   rw[w64 (n:=1048576-0) zq0,Bp zq0,Ao,Ht _ zq5 zq3,Ae,show cat [([],()),(b,())]=b by simp[cat],Asj _ _ zq7 zq0,Ae]
   simp only
   rw[Al zq0,Ba,Ch _ zq2,Ae,w64 zq0]
   simp
  have e2:Akm ((Im Gn b).1,(Im Gn b).2,(b.length:Int),())=some (Aah (Im Gn (b++Aag b.length)).1,()):=by
   unfold Akm Aj2
   simp only[Af,Aj,Ag,Aa]
   rw[Bcp _ (by dsimp only;rw[hc.2.1];decide),Ae]
   have ok:Ava ((Im Gn b).1,(Im Gn b).2,(b.length:Int),())=true:=by
    unfold Ava
    simp only[hc.2.2 Bl3,hc.2.1,Bool.and_eq_true]
    refine⟨by decide,Bj.2 zq0,?_⟩
    rw[hc.1];simp
   rw[ok]
   simp only[Bool.not_true,Ao]
   rw[Bs5 _ h,Ae,Ht _ zq5 zq3,Ae,show cat [((Im Gn b).2,()),(Aag b.length,())]=(Im Gn b).2++Aag b.length by simp[cat],Asj _ _ (by rw[hc.2.1];decide) zq1,Ae,<-Boj _ _ _ _ (Nat.le_refl _)]
   simp only
   rw[Bf0 _ (by rw[(Amh _ Gn _ (Nat.le_refl _) zq7).2.1];decide)]
   rfl
  rw[Bp zq0,Ao,show Ayv=some (Gn,[],0,())from rfl,Ae,e1,Ae,e2,Ae,if_pos h]
 .rw[Al zq0,A9,if_neg h]
theorem Brx (b:List YB) (h:b.length<=1048576):(sha b).length=32:=by
 unfold sha
 rw[if_pos h,Aqk,(Amh _ Gn _ (Nat.le_refl _) zq7).2.1];rfl
theorem Ami (b:List YB):(sha b).length<=32:=by rcases Bhe b with h|h<;>omega
def Avb (k:List YB):List YB:=k++List.replicate (64-k.length) ((0:Int),())
def Gp (k:List YB):List YB:=Avb (if k.length>64 then sha k else k)
theorem Awp (k:List YB) (h:k.length<=64):Ay Hw (k,())=some (Avb k,()):=by
 have hr:=Ct (B:=Hw) (64-k.length) (fun i=>(k++List.replicate i ((0:Int),()),())) (Avb k,())
  (fun i hi=>by
   unfold Hw
   simp only[Af,Aj,Aa]
   rw[Al zq1,A9,Al zq1,Ba,List.append_assoc,<-List.replicate_succ'])
  (by
   unfold Hw
   simp only[Af,Aj,Aa]
   rw[Bp zq1,Ao];rfl)
 simpa using hr
theorem Bjc (k:List YB) (h:k.length<=64):(Avb k).length=64:=by unfold Avb;simp;omega
theorem Ag0 (k:List YB):(Gp k).length=64:=by
 unfold Gp
 refine Bjc _ ?_
 split
 .have:=Ami k;omega
 .omega
theorem Bjd (k:List YB) (h:k.length<=1048576):Agt (k,())=some (Gp k,()):=by
 unfold Agt Afy Gp
 simp only[Af,Ag,Aa]
 rw[Bp zq0,Ao,Ch _ zq2,Ae]
 by_cases h1:k.length>64
 .have:=Ami k
  rw[Al zq0,A9,Bjb _ zq0,Ae,Awp _ zq0,if_pos h1];rfl
 .rw[Bp zq0,Ao,Awp _ zq0,if_neg h1];rfl
theorem Bje (k:List YB) (h:k.length<=1048576):Agi (k,())=some (Gp k,()):=by
 unfold Agi Ae0 Gp
 simp only[Af,Ag,Aa,Aj,List.nil_append,List.length_nil,Nat.zero_add]
 rw[Bp zq0,Ao,Al zq0,Ba,show Sx=Hw from rfl]
 by_cases h1:k.length>64
 .have:=Ami k
  rw[Al zq0,A9,Bja,Ae,Awp _ zq0,if_pos h1];rfl
 .rw[Bp zq0,Ao,Awp _ zq0,if_neg h1];rfl
def A0x (x c:Int):YB:=(IntKind.u8.wrap ((BitVec.ofInt (IntKind.u8.bits) x ^^^ BitVec.ofInt (IntKind.u8.bits) c).toNat:Nat),())
def Fy (k:List YB) (c:Int):List YB:=k.map fun x=>A0x x.1 c
theorem Aqe (k:List YB) (c:Int):(Fy k c).length=k.length:=by simp[Fy]
theorem Aku (k:List YB) (x:YB) (c:Int):Fy (k++[x]) c=Fy k c++[A0x x.1 c]:=by simp[Fy]
theorem Bcq (k:List YB) (c:Int) (h:k.length<=1048576):Ad3 (k,()) (c,())=some (Fy k c,()):=by
 have hr:=Ct (B:=Ny) k.length (fun i=>(c,Fy (k.take i) c,k,(k.length:Int),(i:Int),())) (Fy k c,())
  (fun i hi=>by
   have hx:=List.getElem?_eq_getElem hi
   unfold Ny
   simp only[Af,Ag,Aa,Aj,Dm hi,A9,B9 hx,Ae]
   rw[Al zq9,Ba,w64 zq0,<-E9 hx,Aku]
   rfl)
  (by unfold Ny;simp only[Af,Aa,Dn,Ao,List.take_length])
 unfold Ad3 Ao4
 simp only[Ag,Aa]
 rw[show Ay Ny (c,[],k,(k.length:Int),(0:Int),())=_ from hr]
 rfl
theorem Bqn (m k:List YB) (h:k.length=64):Ay Sy (m,k,[],[],(0:Int),())=some (m,Fy k 54,Fy k 92,()):=by
 have hr:=Ct (B:=Sy) 64 (fun i=>(m,k,Fy (k.take i) 54,Fy (k.take i) 92,(i:Int),())) (m,Fy k 54,Fy k 92,())
  (fun i hi=>by
   have hx:=List.getElem?_eq_getElem (show i<k.length by omega)
   unfold Sy
   simp only[Af,Ag,Aa,Aj]
   rw[Al zq0,A9,B9 hx]
   simp only[Ae]
   rw[Al zq9,Ba,Al zq9,Ba,w64 zq0,<-E9 hx,Aku,Aku]
   rfl)
  (by unfold Sy;simp only[Af,Aa,Ag,Aj];rw[Bp zq0,Ao,<-h,List.take_length])
 exact hr
def H3 (k m:List YB):List YB:=if k.length>1048576 then []else if m.length>1048512 then []else sha (Fy (Gp k) 92++sha (Fy (Gp k) 54++m))
theorem Amj (k m:List YB):Vs (k,()) (m,())=some (H3 k m,()):=by
 have hb:=Ag0 k
 unfold Vs Az8 H3
 simp only[Af,Ag,Aa]
 by_cases h1:k.length>1048576
 .rw[Al zq0,A9,if_pos h1]
 rw[Bp zq0,Ao,if_neg h1]
 by_cases h2:m.length>1048512
 .rw[Al zq0,A9,if_pos h2]
 have hs:=Ami (Fy (Gp k) 54++m)
 rw[Bp zq0,Ao,if_neg h2,Bjd _ zq0,Ae,Bcq _ _ zq0,Ae,Bcq _ _ zq0,Ae,Ht _ (by simp[cat,Aqe];omega) zq3,Ae,
  show cat [(Fy (Gp k) 54,()),(m,())]=Fy (Gp k) 54++m by simp[cat],Bjb _ zq9,Ae,Ht _ (by simp[cat,Aqe];omega) zq3,Ae,
  show cat [(Fy (Gp k) 92,()),(sha (Fy (Gp k) 54++m),())]=Fy (Gp k) 92++sha (Fy (Gp k) 54++m) by simp[cat],Bjb _ zq9,Ae]
theorem Amk (k m:List YB):Vo (k,()) (m,())=some (H3 k m,()):=by
 have hb:=Ag0 k
 unfold Vo Azq H3
 simp only[Af,Ag,Aa,Aj]
 by_cases h1:k.length>1048576
 .rw[Al zq0,A9,if_pos h1]
 rw[Bp zq0,Ao,if_neg h1]
 by_cases h2:m.length>1048512
 .rw[Al zq0,A9,if_pos h2]
 have hs:=Ami (Fy (Gp k) 54++m)
 rw[Bp zq0,Ao,if_neg h2,Bje _ zq0,Ae,Bqn _ _ hb,Ae]
 simp only
 rw[Al zq9,Ba,Bja,Ae,Al zq9,Ba,Bja,Ae]
theorem Aql (k m:List YB):(H3 k m).length=32\/(H3 k m).length=0:=by
 unfold H3
 split
 .exact .inr rfl
 split
 .exact .inr rfl
 exact Bhe _
theorem Od (k m:List YB) (h1:k.length<=1048576) (h2:m.length<=1048512):(H3 k m).length=32:=by
 have hb:=Ag0 k
 have hs:=Ami (Fy (Gp k) 54++m)
 unfold H3
 rw[if_neg zq0,if_neg zq0]
 exact Brx _ zq9
def T5 (k m:List YB):List YB:=(H3 k m).take 16
theorem Baj (k m:List YB):Aek (k,()) (m,())=some (T5 k m,()):=by
 unfold Aek A5q T5
 simp only[Af,Ag,Aa,Aj,Amj,Ae]
 rcases Aql k m with h|h
 .rw[Di (by simp[h]),Al zq0,Ba]
  simp only[show(16:Int).toNat=16 from rfl,show(0:Int).toNat=0 from rfl,List.drop_zero]
  rw[Ch _ zq1,Ae]
 .rw[E0 (by simp[h]),List.eq_nil_of_length_eq_zero h];rfl
theorem Bak (k m:List YB):Aej (k,()) (m,())=some (T5 k m,()):=by
 unfold Aej A5c T5
 simp only[Af,Ag,Aa,Aj,Amk,Ae,List.nil_append,List.length_nil,Nat.zero_add]
 rcases Aql k m with h|h
 .rw[Bp zq0,Ao,Al zq0,Ba]
  simp only[show(16:Int).toNat=16 from rfl,show(0:Int).toNat=0 from rfl,List.drop_zero]
  rw[Al zq1,Ba]
 .rw[Al zq0,A9,List.eq_nil_of_length_eq_zero h];rfl
theorem Bhf (k m:List YB):(T5 k m).length<=16:=by unfold T5;simp;omega
def Wc (k n:List YB) (i:Int):List YB:=if inR i 0 6=true/\n.length<=100 then H3 k ((((115:Int),())::n)++Fk i 4 4)else []
theorem Bl4 (k n:List YB) (i:Int):Akp (k,()) (n,()) (i,())=some (Wc k n i,()):=by
 unfold Akp Aka Wc
 simp only[Af,Ag,Aa,Cd,Ae]
 cases hi:inR i 0 6 with
 |false=>simp[br]
 |true=>
  simp only[Bool.not_true,Ao]
  by_cases hn:n.length<=100
  .rw[Bp zq0,Ao,Ht _ zq5 zq3,Ae,show cat [([((115:Int),())],()),(n,())]=((115:Int),())::n by simp[cat],Oc _ _ zq1,Ae,Amj,Ae,if_pos ⟨trivial,hn⟩]
  .rw[Al zq0,A9,if_neg (fun h=>hn h.2)]
theorem Bl5 (k n:List YB) (i:Int):Akk (k,()) (n,()) (i,())=some (Wc k n i,()):=by
 unfold Akk Ajt Wc
 simp only[Af,Ag,Aa,Aj,Cq,Ae]
 cases hi:inR i 0 6 with
 |false=>simp[br]
 |true=>
  simp only[Bool.not_true,Ao]
  by_cases hn:n.length<=100
  .rw[Bp zq0,Ao,Al zq1,Ba,Lb _ _ zq1,Ae,Amk,Ae,if_pos ⟨trivial,hn⟩];rfl
  .rw[Al zq0,A9,if_neg (fun h=>hn h.2)]
theorem Aqm (k n:List YB) (i:Int) (h0:0<=i) (h1:i<=6) (hn:n.length<=100) (hk:k.length<=1048576):(Wc k n i).length=32:=by
 unfold Wc
 rw[if_pos ⟨Bj.2 ⟨h0,h1⟩,hn⟩]
 exact Od _ _ hk zq4
def blocks (k n:List YB) (i:Nat):List YB:=(List.range i).flatMap fun(j:Nat)=>Wc k n (j:Int)
theorem Akv (k n:List YB) (i:Nat):blocks k n (i+1)=blocks k n i++Wc k n (i:Int):=by unfold blocks;rw[List.range_succ,List.flatMap_append];simp
theorem Xw (k n:List YB) (i:Nat) (h:i<=7) (hn:n.length<=100) (hk:k.length<=1048576):(blocks k n i).length=32*i:=by
 induction i with
 |zero=>rfl
 |succ i ih=>rw[Akv,List.length_append,ih zq0,Aqm _ _ _ zq0 zq0 hn hk];omega
def Je (k n:List YB) (m:Nat):List YB:=(blocks k n ((m+31)/32)).take m
theorem A3w (k n:List YB) (m:Nat) (hm:m<=200) (hn:n.length<=100) (hk:k.length<=1048576):(Je k n m).length=m:=by
 unfold Je
 rw[List.length_take,Xw _ _ _ zq0 hn hk];omega
theorem Bok (k n:List YB) (m:Nat) (hm:m<=200) (hn:n.length<=100) (hk:k.length<=1048576):Ap5 (k,()) (n,()) ((m:Int),())=some (Je k n m,()):=by
 have hbl:=Xw k n ((m+31)/32) zq0 hn hk
 have hr:=Ct (B:=N0) ((m+31)/32) (fun i=>(k,n,(m:Int),blocks k n i,(i:Int),())) ((m:Int),blocks k n ((m+31)/32),())
  (fun i hi=>by
   have hl:=Xw k n i zq0 hn hk
   have hl2:=Aqm k n (i:Int) zq0 zq0 hn hk
   unfold N0
   simp only[Af,Ag,Aa,Aj]
   rw[Al zq0,A9,Bl4,Ae,Al zq2,Ba,w64 zq0,Akv]
   rfl)
  (by
   unfold N0
   simp only[Af,Ag,Aa,Aj]
   rw[Bp zq0,Ao])
 unfold Ap5 Apc
 simp only[Af,Ag,Aa,Aj,Cd,Ae]
 rw[Di zq8,Bp zq0,Ao,Bp zq0,Ao,show Ay N0 (k,n,(m:Int),[],(0:Int),())=_ from hr,Ae]
 simp only[Int.toNat_natCast,show(0:Int).toNat=0 from rfl,List.drop_zero]
 rw[Al zq0,Ba,Al zq0,Ba,Ch _ zq1,Ae]
 rfl
theorem Bol (k n:List YB) (m:Nat) (hm:m<=200) (hn:n.length<=100) (hk:k.length<=1048576):Apw (k,()) (n,()) ((m:Int),())=some (Je k n m,()):=by
 have hbl:=Xw k n ((m+31)/32) zq0 hn hk
 have hr:=Ct (B:=Nt) ((m+31)/32) (fun i=>(k,n,(m:Int),blocks k n i,(i:Int),())) ((m:Int),blocks k n ((m+31)/32),())
  (fun i hi=>by
   have hl:=Xw k n i zq0 hn hk
   have hl2:=Aqm k n (i:Int) zq0 zq0 hn hk
   unfold Nt
   simp only[Af,Ag,Aa,Aj]
   rw[Al zq0,A9,Bl5,Ae,Al zq2,Ba,w64 zq0,Akv]
   rfl)
  (by
   unfold Nt
   simp only[Af,Ag,Aa,Aj]
   rw[Bp zq0,Ao])
 unfold Apw Aoa
 simp only[Af,Ag,Aa,Aj,Cq,Ae]
 rw[Di zq8,Bp zq0,Ao,Bp zq0,Ao,show Ay Nt (k,n,(m:Int),[],(0:Int),())=_ from hr,Ae]
 simp only[Int.toNat_natCast,show(0:Int).toNat=0 from rfl,List.drop_zero,List.nil_append,List.length_nil,Nat.zero_add]
 rw[Al zq0,Ba,Al zq0,Ba,Al zq1,Ba]
 rfl
def Ag1 (st p:List YB) (i:Nat):List YB:=(List.range i).map fun j=>A0x (st[j]?.getD (0,())).1 (p[j]?.getD (0,())).1
theorem A8c (st p:List YB) (i:Nat):Ag1 st p (i+1)=Ag1 st p i++[A0x (st[i]?.getD (0,())).1 (p[i]?.getD (0,())).1]:=by unfold Ag1;rw[List.range_succ,List.map_append];rfl
theorem Aqn (st p:List YB) (i:Nat):(Ag1 st p i).length=i:=by simp[Ag1]
def mix (k n p:List YB):List YB:=if p.length<=200/\n.length<=100/\k.length<=1048576 then Ag1 (Je k n p.length) p p.length else []
theorem Avc (k n p:List YB):(mix k n p).length<=p.length:=by
 unfold mix
 split
 .rw[Aqn];exact Nat.le_refl _
 .simp
theorem Bqc (k n p:List YB):Awm (k,()) (n,()) (p,())=some (mix k n p,()):=by
 unfold Awm A5s mix
 simp only[Af,Ag,Aa]
 by_cases h1:p.length<=200
 .rw[Bp zq0,Ao]
  by_cases h2:n.length<=100
  .rw[Bp zq0,Ao]
   by_cases h3:k.length<=1048576
   .have hs:=A3w k n p.length h1 h2 h3
    have hr:=Ct (B:=V8) p.length (fun i=>(p,Ag1 (Je k n p.length) p i,Je k n p.length,((Je k n p.length).length:Int),(i:Int),())) (Ag1 (Je k n p.length) p p.length,())
     (fun i hi=>by
      have hx:=List.getElem?_eq_getElem hi
      have hy:=List.getElem?_eq_getElem (show i<(Je k n p.length).length by omega)
      unfold V8
      simp only[Af,Ag,Aa,Aj]
      rw[Al zq0,A9,B9 hy,Ae,B9 hx,Ae,Al (by simp[Aqn];omega),Ba,w64 zq0,A8c,hx,hy]
      rfl)
     (by
      unfold V8
      simp only[Af,Ag,Aa,Aj]
      rw[Bp zq0,Ao])
    rw[Bp zq0,Ao,Bok _ _ _ h1 h2 h3,Ae,if_pos ⟨h1,h2,h3⟩]
    simp only
    rw[show Ay V8 (p,[],Je k n p.length,((Je k n p.length).length:Int),(0:Int),())=_ from hr]
    rfl
   .rw[Al zq0,A9,if_neg zq0]
  .rw[Al zq0,A9,if_neg zq0]
 .rw[Al zq0,A9,if_neg zq0]
theorem Bl6 (a b:Int):A0x a b=A0x b a:=by unfold A0x;rw[BitVec.xor_comm]
theorem Bqd (k n p:List YB):Awl (k,()) (n,()) (p,())=some (mix k n p,()):=by
 unfold Awl A5d mix
 simp only[Af,Ag,Aa]
 by_cases h1:p.length<=200
 .rw[Bp zq0,Ao]
  by_cases h2:n.length<=100
  .rw[Bp zq0,Ao]
   by_cases h3:k.length<=1048576
   .have hs:=A3w k n p.length h1 h2 h3
    have hr:=Ct (B:=V7) p.length (fun i=>(p,Ag1 (Je k n p.length) p i,Je k n p.length,(i:Int),())) (Ag1 (Je k n p.length) p p.length,())
     (fun i hi=>by
      have hx:=List.getElem?_eq_getElem hi
      have hy:=List.getElem?_eq_getElem (show i<(Je k n p.length).length by omega)
      unfold V7
      simp only[Af,Ag,Aa,Aj]
      rw[Al zq0,A9,B9 hx,Ae,B9 hy,Ae,Al (by simp[Aqn];omega),Ba,w64 zq0,A8c,hx,hy]
      rw[Bl6]
      rfl)
     (by
      unfold V7
      simp only[Af,Ag,Aa,Aj]
      rw[Bp zq0,Ao])
    rw[Bp zq0,Ao,Bol _ _ _ h1 h2 h3,Ae,if_pos ⟨h1,h2,h3⟩]
    simp only
    rw[show Ay V7 (p,[],Je k n p.length,(0:Int),())=_ from hr]
    rfl
   .rw[Al zq0,A9,if_neg zq0]
  .rw[Al zq0,A9,if_neg zq0]
 .rw[Al zq0,A9,if_neg zq0]
def Hy (r:Int) (sn:List YB) (ep seq:Int):Bool:=inR r 0 1 && (((sn.length:Int)==12) && (inR ep 0 4294967295 && inR seq 0 281474976710655))
def Ei (r:Int) (sn:List YB) (ep seq:Int):List YB:=bif Hy r sn ep seq then(IntKind.u8.wrap r,())::(sn++(Fk ep 4 4++Fk seq 6 6))else []
theorem A0y (r:Int) (sn:List YB) (ep seq:Int):Xo (r,()) (sn,()) (ep,()) (seq,())=some (Ei r sn ep seq,()):=by
 unfold Xo Apb Ei Hy
 simp only[Af,Ag,Aa,Z9,Hx,Cd,Ae,Aem]
 cases inR r 0 1 with
 |false=>rfl
 |true=>
  cases hs:((sn.length:Int)==12)with
  |false=>rfl
  |true=>
   have hs':sn.length=12:=by simp at hs;omega
   cases inR ep 0 4294967295 with
   |false=>rfl
   |true=>
    cases inR seq 0 281474976710655 with
    |false=>rfl
    |true=>
     simp only[Bool.not_true,Ao,Bool.and_true,cond_true]
     rw[Oc _ _ zq3,Ae,A56 _ _ zq3,Ae,Ht _ zq6 zq3,Ae]
     simp[cat]
theorem Aqo (r:Int) (sn:List YB) (ep seq:Int):Te (r,()) (sn,()) (ep,()) (seq,())=some (Ei r sn ep seq,()):=by
 unfold Te An9 Ei Hy
 simp only[Af,Ag,Aa,Aj,Cq,Ae,bne]
 cases inR r 0 1 with
 |false=>rfl
 |true=>
  cases hs:((sn.length:Int)==12)with
  |false=>rfl
  |true=>
   have hs':sn.length=12:=by simp at hs;omega
   cases inR ep 0 4294967295 with
   |false=>rfl
   |true=>
    cases inR seq 0 281474976710655 with
    |false=>rfl
    |true=>
     simp only[Bool.not_true,Ao,Bool.and_true,cond_true]
     rw[Al zq1,Ba,Lb _ _ zq1,Ae,Bhb _ _ zq4,Ae]
     simp
theorem Ot (r:Int) (sn:List YB) (ep seq:Int):(Ei r sn ep seq).length=(bif Hy r sn ep seq then 23 else 0):=by
 unfold Ei
 cases h:Hy r sn ep seq with
 |false=>rfl
 |true=>
  unfold Hy at h
  simp at h
  have:sn.length=12:=by omega
  simp[Gd,this]
def D3 (r:Int) (f:Ar):List YB:=bif inR r 0 1 && (B7 f && inR f.1 4 8)then((116:Int),())::(Ei r f.2.2.2.1 f.2.2.2.2.2.2.2.1 f.2.2.2.2.2.2.2.2.1++((IntKind.u8.wrap f.1,())::f.2.2.2.2.2.2.2.2.2.1))else []
theorem Tl (r:Int) (f:Ar) (h:Aq f<=536870912):Ll (r,()) f=some (D3 r f,()):=by
 have hh:=Ot r f.2.2.2.1 f.2.2.2.2.2.2.2.1 f.2.2.2.2.2.2.2.2.1
 simp only[Aq]at h
 unfold Ll Af7 D3
 simp only[Af,Ag,Aa,Z9,Aae,Kv,Ae,Aem,A0y]
 cases inR r 0 1 with
 |false=>rfl
 |true=>
  cases inR f.1 4 8 with
  |false=>cases B7 f<;>rfl
  |true=>
   cases B7 f with
   |false=>rfl
   |true=>
    have hle:(Ei r f.2.2.2.1 f.2.2.2.2.2.2.2.1 f.2.2.2.2.2.2.2.2.1).length<=23:=by rw[hh];cases Hy r f.2.2.2.1 f.2.2.2.2.2.2.2.1 f.2.2.2.2.2.2.2.2.1<;>simp
    simp only[Bool.not_true,Ao,Bool.and_true,cond_true]
    rw[Ht _ zq5 zq3,Ae]
    simp[cat]
theorem Xx (r:Int) (f:Ar) (h:Aq f<=536870912):Lk (r,()) f=some (D3 r f,()):=by
 have hh:=Ot r f.2.2.2.1 f.2.2.2.2.2.2.2.1 f.2.2.2.2.2.2.2.2.1
 simp only[Aq]at h
 unfold Lk Afd D3
 simp only[Af,Ag,Aa,Aj,Cq,Aaf,Jd,Ae,Aqo]
 cases inR r 0 1 with
 |false=>rfl
 |true=>
  cases B7 f with
  |false=>rfl
  |true=>
   cases inR f.1 4 8 with
   |false=>rfl
   |true=>
    have hle:(Ei r f.2.2.2.1 f.2.2.2.2.2.2.2.1 f.2.2.2.2.2.2.2.2.1).length<=23:=by rw[hh];cases Hy r f.2.2.2.1 f.2.2.2.2.2.2.2.1 f.2.2.2.2.2.2.2.2.1<;>simp
    simp only[Bool.not_true,Ao,Bool.and_true,cond_true]
    rw[Al zq1,Ba,Al zq1,Ba,Al zq1,Ba]
    simp
def Qa:List YB:=List.replicate 16 ((0:Int),())
def Mw (k:List YB) (r:Int) (sn:List YB) (ep seq kind:Int) (p:List YB):Bool:=((k.length:Int)==32) && (Hy r sn ep seq && (inR kind 4 8 && Jc kind (p.length:Int)))
def Hz:Ar:=(0,0,[],[],0,[],[],0,0,[],[],())
def Gq (k:List YB) (r:Int) (sn:List YB) (ep seq kind:Int) (p:List YB):Ar×(Bool×Unit):=
 bif Mw k r sn ep seq kind p then((kind,0,[],sn,0,[],[],ep,seq,mix k (Ei r sn ep seq) p,T5 k (D3 r (kind,0,[],sn,0,[],[],ep,seq,mix k (Ei r sn ep seq) p,Qa,())),()),(true,()))else(Hz,(false,()))
theorem Bry (sn:List YB) (ep seq kind:Int) (p:List YB) (hk:inR kind 4 8=true):B7 (kind,0,[],sn,0,[],[],ep,seq,p,Qa,())=(((sn.length:Int)==12) && (inR ep 0 4294967295 && (inR seq 0 281474976710655 && Jc kind (p.length:Int)))):=by
 unfold B7
 simp only[hk,cond_true]
 simp[Qa]
theorem Bl7 (k:List YB) (r:Int) (sn:List YB) (ep seq kind:Int) (p:List YB) (h1:sn.length<=67108864) (h2:p.length<=67108864):Agx (k,()) (r,()) (sn,()) (ep,()) (seq,()) (kind,()) (p,())=some (Gq k r sn ep seq kind p):=by
 have hm:=Avc k (Ei r sn ep seq) p
 unfold Agx A0j Gq Mw Hy
 simp only[Af,Ag,Aa]
 rw[Ch _ zq2,Ae,Ch _ zq2,Ae]
 simp only[Z9,Aae,Kv,Ae,Aem,bne]
 cases ((k.length:Int)==32)with
 |false=>rfl
 |true=>
  cases inR r 0 1 with
  |false=>rfl
  |true=>
   cases hk:inR kind 4 8 with
   |false=>simp[br];rfl
   |true=>
    simp only[Bool.not_true,Ao,Bool.true_and]
    rw[show List.replicate (16:Int).toNat ((0:Int),())=Qa from rfl,Bry sn ep seq kind p hk,A0y,Ae,Bqc,Ae]
    simp only
    rw[Tl _ _ (by simp only[Aq];simp[Qa];omega),Ae,Baj,Ae]
    cases ((sn.length:Int)==12)<;>cases inR ep 0 4294967295<;>cases inR seq 0 281474976710655<;>cases Jc kind (p.length:Int)<;>rfl
theorem Bjf (x:List YB) (r a b:Int) (n1 n2:List YB) (c:Int) (n3 n4:List YB) (d e:Int) (n5 n6:List YB) (kind f:Int) (n7 sn:List YB) (g:Int) (n8 n9:List YB) (ep seq:Int) (body:List YB):
  Ay O0 (x,r,(0:Int),a,b,n1,n2,c,n3,n4,d,e,n5,n6,kind,f,n7,sn,g,n8,n9,ep,seq,body,[],())=some (x,r,a,b,n1,n2,c,n3,n4,d,e,n5,n6,kind,f,n7,sn,g,n8,n9,ep,seq,body,Qa,()):=by
 exact Ct (B:=O0) 16 (fun i=>(x,r,(i:Int),a,b,n1,n2,c,n3,n4,d,e,n5,n6,kind,f,n7,sn,g,n8,n9,ep,seq,body,List.replicate i ((0:Int),()),())) _
  (fun i hi=>by
   unfold O0
   simp only[Af,Aj,Aa]
   rw[Al zq0,A9,Al zq1,Ba,w64 zq0,<-List.replicate_succ']
   rfl)
  (by unfold O0;simp only[Af,Aj,Aa];rfl)
theorem Bl8 (k:List YB) (r:Int) (sn:List YB) (ep seq kind:Int) (p:List YB) (h1:sn.length<=67108864) (h2:p.length<=67108864):B0 (k,()) (r,()) (sn,()) (ep,()) (seq,()) (kind,()) (p,())=some (Gq k r sn ep seq kind p):=by
 have hm:=Avc k (Ei r sn ep seq) p
 have hh:=Ot r sn ep seq
 unfold B0 Aob Gq Mw
 simp only[Af,Ag,Aa,Aj,List.nil_append,List.length_nil,Nat.zero_add]
 rw[Aqo,Ae]
 simp only[Aaf,A0w,Ae,bne]
 cases ((k.length:Int)==32)with
 |false=>rfl
 |true=>
  cases hd:Hy r sn ep seq with
  |false=>
   rw[hd]at hh
   have e:((Ei r sn ep seq).length:Int)==0:=by rw[hh];rfl
   rw[e];rfl
  |true=>
   rw[hd]at hh
   have e:(((Ei r sn ep seq).length:Int)==0)=false:=by rw[hh];rfl
   rw[e]
   cases hk:inR kind 4 8 with
   |false=>rfl
   |true=>
    cases hb:Jc kind (p.length:Int)with
    |false=>rfl
    |true=>
     simp only[Bool.not_true,Ao,Bool.true_and,Bool.and_true,cond_true]
     rw[Al zq0,Ba,Bqd,Ae]
     simp only
     rw[Bjf,Ae]
     simp only
     rw[Xx _ _ (by simp only[Aq];simp[Qa];omega),Ae,Bak,Ae]
theorem Bf1 (k:List YB) (r:Int) (sn:List YB) (ep seq kind:Int) (p:List YB):Aq (Gq k r sn ep seq kind p).1<=sn.length+p.length+32:=by
 have hm:=Avc k (Ei r sn ep seq) p
 have ht:=Bhf k (D3 r (kind,0,[],sn,0,[],[],ep,seq,mix k (Ei r sn ep seq) p,Qa,()))
 unfold Gq
 cases Mw k r sn ep seq kind p<;>simp[Aq,Hz]
 omega
theorem Abq (r:Int) (f:Ar):(D3 r f).length<=Aq f+32:=by
 have hh:=Ot r f.2.2.2.1 f.2.2.2.2.2.2.2.1 f.2.2.2.2.2.2.2.2.1
 have hle:(Ei r f.2.2.2.1 f.2.2.2.2.2.2.2.1 f.2.2.2.2.2.2.2.2.1).length<=23:=by rw[hh];cases Hy r f.2.2.2.1 f.2.2.2.2.2.2.2.1 f.2.2.2.2.2.2.2.2.1<;>simp
 unfold D3 Aq
 cases (inR r 0 1 && (B7 f && inR f.1 4 8))<;>simp
 omega
theorem Avd (d:Dk) (h:Hr d<=4294967296):Abn d=some d:=by
 simp only[Hr]at h
 unfold Abn Ajv
 simp only[Aj,Aa,List.length_nil,Nat.zero_add,List.nil_append]
 rw[Al h];rfl
theorem Bcr (d:Dk) (h:Hr d<=4294967296):Apu d=some d:=Avd d h
theorem A0z (d:YEp) (h:C7 d<=4294967296):Tf d=some d:=by
 simp only[C7]at h
 unfold Tf Aof
 simp (disch:=first|omega|(dsimp only;omega)|(simp only[Hr];omega)) only[Ag,Aa,Ch,Avd,Ae]
theorem Aqp (d:YEp) (h:C7 d<=4294967296):Td d=some d:=by
 simp only[C7]at h
 unfold Td An0
 simp (disch:=first|omega|(dsimp only;omega)|(simp only[Hr];omega)) only[Ag,Aj,Aa,Bcr,Ae,List.length_nil,Nat.zero_add,List.nil_append,Al,Ba]
theorem Bqo (d:YEp) (b:Bool×Unit) (h:C7 d<=4294967296):Auu d b=some d:=by
 have h':=h
 simp only[C7]at h
 unfold Auu Ati
 simp (disch:=first|omega|(dsimp only;omega)) only[Af,Ag,Aj,Aa,Aqp,Ae,List.length_nil,Nat.zero_add,List.nil_append,Al,Ba]
 cases b.1<;>rfl
theorem Tm (d:Ap) (h:A7 d<=4294967296):Id d=some d:=by
 simp only[A7]at h
 unfold Id Afi
 simp (disch:=first|omega|(dsimp only;omega)|(simp only[C7];omega)) only[Ag,Aj,Aa,Ch,A0z,Ae]
theorem Sc (d:Ap) (h:A7 d<=4294967296):I2 d=some d:=by
 simp only[A7]at h
 unfold I2 Ajn
 simp (disch:=first|omega|(dsimp only;omega)|(simp only[C7];omega)) only[Ag,Aj,Aa,Aqp,Bqo,Ae,List.length_nil,Nat.zero_add,List.nil_append,Al,Ba]
theorem Nj (d:Bn) (h:Bd d<=4294967296):Fe d=some d:=by
 obtain⟨a,b,l,⟨⟩⟩:=d
 simp only[Bd]at h
 have hl:=Ct (B:=Jt) l.length (fun i=>(l,(l.length:Int),(i:Int),(0:Int),(0:Int),([]:List A8),a,b,l.take i,())) ((0:Int),(0:Int),([]:List A8),a,b,l,())
  (fun i hi=>by
   have hx:=List.getElem?_eq_getElem hi
   have h2:=Ob (f:=Ga) hx
   simp only[Ga]at h2
   unfold Jt
   simp only[Af,Ag,Aa,Aj,Dm hi,A9,B9 hx,Ae]
   rw[Ch _ zq2,Ae,Al zq1,Ba,w64 zq0]
   exact congrArg (fun t=>some (Sum.inl (l,(l.length:Int),(i:Int)+1,(0:Int),(0:Int),([]:List A8),a,b,t,()))) (E9 hx))
  (by unfold Jt;simp only[Af,Aa,Dn,Ao,List.take_length])
 unfold Fe Acs
 simp only[Ag,Aa]
 rw[show Ay Jt (l,(l.length:Int),(0:Int),(0:Int),(0:Int),([]:List A8),a,b,([]:List A8),())=_ from hl]
 rfl
theorem Ain (d:A8) (h:Ga d<=4294967296):Qm d=some d:=by
 simp only[Ga]at h
 unfold Qm Ajl
 simp only[Aj,Aa,List.length_nil,Nat.zero_add,List.nil_append]
 rw[Al h];rfl
theorem Wd (d:Bn) (h:Bd d<=4294967296):Ed d=some d:=by
 obtain⟨a,b,l,⟨⟩⟩:=d
 simp only[Bd]at h
 have hl:=Ct (B:=L3) l.length (fun i=>((i:Int),a,b,l,(0:Int),(0:Int),([]:List A8),a,b,l.take i,())) ((0:Int),(0:Int),([]:List A8),a,b,l,())
  (fun i hi=>by
   have hx:=List.getElem?_eq_getElem hi
   have h2:=Ob (f:=Ga) hx
   unfold L3
   simp only[Af,Ag,Aa,Aj,Dm hi,A9,B9 hx,Ae]
   rw[Ain _ zq0,Ae,Al zq1,Ba,w64 zq0]
   exact congrArg (fun t=>some (Sum.inl ((i:Int)+1,a,b,l,(0:Int),(0:Int),([]:List A8),a,b,t,()))) (E9 hx))
  (by unfold L3;simp only[Af,Aa,Dn,Ao,List.take_length])
 unfold Ed Ajm
 simp only[Ag,Aa]
 rw[show Ay L3 ((0:Int),a,b,l,(0:Int),(0:Int),([]:List A8),a,b,([]:List A8),())=_ from hl]
 rfl
theorem Mx (d:Ak) (h:A5 d<=4294967296):Jb d=some d:=by
 simp only[A5]at h
 unfold Jb Afj
 simp (disch:=first|omega|(dsimp only;omega)|(simp only[A7];omega)|(simp only[Bd];omega)) only[Ag,Aj,Aa,Ch,Tm,Nj,Ae]
theorem Acd (d:Ak) (h:A5 d<=4294967296):Nf d=some d:=by
 simp only[A5]at h
 unfold Nf Ajo
 simp (disch:=first|omega|(dsimp only;omega)|(simp only[A7];omega)|(simp only[Bd];omega)) only[Ag,Aj,Aa,Sc,Wd,Ae,List.length_nil,Nat.zero_add,List.nil_append,Al,Ba]
theorem Aio (d:Cj) (h:Co d<=4294967296):Qp d=some d:=by
 obtain⟨c,l,⟨⟩⟩:=d
 simp only[Co]at h
 have hl:=Ct (B:=L9) l.length (fun i=>(l,(l.length:Int),(i:Int),(0:Int),([]:List Ak),c,l.take i,())) ((0:Int),([]:List Ak),c,l,())
  (fun i hi=>by
   have hx:=List.getElem?_eq_getElem hi
   have h2:=Ob (f:=A5) hx
   unfold L9
   simp only[Af,Ag,Aa,Aj,Dm hi,A9,B9 hx,Ae]
   rw[Mx _ zq0,Ae,Al zq1,Ba,w64 zq0]
   exact congrArg (fun t=>some (Sum.inl (l,(l.length:Int),(i:Int)+1,(0:Int),([]:List Ak),c,t,()))) (E9 hx))
  (by unfold L9;simp only[Af,Aa,Dn,Ao,List.take_length])
 unfold Qp Ajx
 simp only[Ag,Aa]
 rw[show Ay L9 (l,(l.length:Int),(0:Int),(0:Int),([]:List Ak),c,([]:List Ak),())=_ from hl]
 rfl
theorem Bl9 (d:Cj) (h:Co d<=4294967296):Akj d=some d:=by
 obtain⟨c,l,⟨⟩⟩:=d
 simp only[Co]at h
 have hl:=Ct (B:=L4) l.length (fun i=>((i:Int),c,l,(0:Int),([]:List Ak),c,l.take i,())) ((0:Int),([]:List Ak),c,l,())
  (fun i hi=>by
   have hx:=List.getElem?_eq_getElem hi
   have h2:=Ob (f:=A5) hx
   unfold L4
   simp only[Af,Ag,Aa,Aj,Dm hi,A9,B9 hx,Ae]
   rw[Acd _ zq0,Ae,Al zq1,Ba,w64 zq0]
   exact congrArg (fun t=>some (Sum.inl ((i:Int)+1,c,l,(0:Int),([]:List Ak),c,t,()))) (E9 hx))
  (by unfold L4;simp only[Af,Aa,Dn,Ao,List.take_length])
 unfold Akj Ajp
 simp only[Ag,Aa]
 rw[show Ay L4 ((0:Int),c,l,(0:Int),([]:List Ak),c,([]:List Ak),())=_ from hl]
 rfl
def G7 (b:YBs):Bool:=inR (b.1.length:Int) 1 32
theorem Awq (b:YBs):Wa b=some (G7 b,()):=by
 unfold Wa At1
 simp only[Ag,Aa,Cd,Ae];rfl
theorem Aai (b:YBs):Rs b=some (G7 b,()):=by
 unfold Rs As7
 simp only[Ag,Aa,Cq,Ae];rfl
theorem A58 (b:YBs):Aic b=some ((b.1.length:Int)==32,()):=rfl
theorem Awr (b:YBs):Aus b=some ((b.1.length:Int)==32,()):=rfl
def F0 (d:Ge):Bool:=inR (d.1.length:Int) 1 32 && inR d.2.1 0 10000
theorem Bcs (d:Ge):Ad0 d=some (F0 d,()):=by
 unfold Ad0 Aoj
 simp only[Af,Ag,Aa,Cd,Ae,R8];rfl
theorem Bct (d:Ge):Adv d=some (F0 d,()):=by
 unfold Adv Am8
 simp only[Af,Ag,Aa,Cq,Ae,R8];rfl
def Fg (s:Bs):Bool:=
 inR (s.1.length:Int) 1 9 && (((s.2.1.length:Int)==32) && (F0 (s.2.2.1,s.2.2.2.1,()) && (Hm (s.2.2.2.2.1,s.2.2.2.2.2.1,()) && (Cg s.2.2.2.2.2.2.1 &&
  (D6 (fun _ x=> !G7 x) s.1 && D6 (fun _ (x:Ak)=>decide (x.1>(s.1.length:Int))) s.2.2.2.2.2.1)))))
theorem Aqq (s:Bs) (h:Br s<=4294967296):Rv s=some (Fg s,()):=by
 obtain⟨ps,jar,sd,n,cap,ss,cr,⟨⟩⟩:=s
 simp only[Br]at h
 have hl1:=Fp (B:=K5) ps (fun i=>(ps,(ps.length:Int),(i:Int),ps,jar,sd,n,cap,ss,cr,())) (fun _ x=> !G7 x) (false,()) (ps,jar,sd,n,cap,ss,cr,())
  (fun i x hi hx=>by
   unfold K5
   simp (disch:=omega) only[Af,Ag,Aa,Dm hi,A9,B9 hx,Ae,w64,Awq]
   rfl)
  (by unfold K5;simp only[Af,Aa,Dn,Ao])
 have hl2:=Fp (B:=Ju) ss (fun i=>(ss,(ss.length:Int),(i:Int),ps,jar,sd,n,cap,ss,cr,())) (fun _ x=>decide (x.1>(ps.length:Int))) (false,()) ()
  (fun i x hi hx=>by
   unfold Ju
   simp (disch:=omega) only[Af,Ag,Aa,Dm hi,A9,B9 hx,Ae,w64]
   rfl)
  (by unfold Ju;simp only[Af,Aa,Dn,Ao])
 unfold Rv W3 Fg
 simp only[Af,Ag,Aa,E8,Cd,Ae,A58,Bcs]
 rw[Amg _ (by simp only[Co];omega),Uv _ zq0,show((0:Int))=((0:Nat):Int)from rfl,hl1]
 simp only[Ae]
 cases inR (ps.length:Int) 1 9 with
 |false=>rfl
 |true=>
  cases ((jar.length:Int)==32)with
  |false=>rfl
  |true=>
   cases F0 (sd,n,())with
   |false=>rfl
   |true=>
    cases Hm (cap,ss,())with
    |false=>rfl
    |true=>
     cases Cg cr with
     |false=>rfl
     |true=>
      cases D6 (fun _ x=> !G7 x) ps with
      |false=>rfl
      |true=>
       simp only[Bool.not_true,Ao,cond_true,sm]
       rw[hl2]
       cases D6 (fun _ (x:Ak)=>decide (x.1>(ps.length:Int))) ss<;>rfl
theorem A3x (s:Bs) (h:Br s<=4294967296):Agk s=some (Fg s,()):=by
 obtain⟨ps,jar,sd,n,cap,ss,cr,⟨⟩⟩:=s
 simp only[Br]at h
 have hl1:=Fp (B:=Ky) ps (fun i=>((i:Int),ps,jar,sd,n,cap,ss,cr,())) (fun _ x=> !G7 x) (false,()) (ps,jar,sd,n,cap,ss,cr,())
  (fun i x hi hx=>by
   unfold Ky
   simp (disch:=omega) only[Af,Ag,Aa,Dm hi,A9,B9 hx,Ae,w64,Aai]
   rfl)
  (by unfold Ky;simp only[Af,Aa,Dn,Ao])
 have hl2:=Fp (B:=Kz) ss (fun i=>((i:Int),ps,jar,sd,n,cap,ss,cr,())) (fun _ x=>decide (x.1>(ps.length:Int))) (false,()) ()
  (fun i x hi hx=>by
   unfold Kz
   simp (disch:=omega) only[Af,Ag,Aa,Dm hi,A9,B9 hx,Ae,w64]
   rfl)
  (by unfold Kz;simp only[Af,Aa,Dn,Ao])
 unfold Agk Wv Fg
 simp only[Af,Ag,Aa,E8,Cq,Ae,Awr,Bct]
 rw[Bha _ (by simp only[Co];omega),Ku _ zq0,show((0:Int))=((0:Nat):Int)from rfl,hl1]
 simp only[Ae]
 cases inR (ps.length:Int) 1 9 with
 |false=>rfl
 |true=>
  cases ((jar.length:Int)==32)with
  |false=>rfl
  |true=>
   cases F0 (sd,n,())with
   |false=>rfl
   |true=>
    cases Hm (cap,ss,())with
    |false=>rfl
    |true=>
     cases Cg cr with
     |false=>rfl
     |true=>
      cases D6 (fun _ x=> !G7 x) ps with
      |false=>rfl
      |true=>
       simp only[Bool.not_true,Ao,cond_true,sm]
       rw[hl2]
       cases D6 (fun _ (x:Ak)=>decide (x.1>(ps.length:Int))) ss<;>rfl
theorem Bcu {E:Type} {f:E->Nat}: ∀ {l:List E} {i:Nat} {x:E},Bu f (l.set i x)<=Bu f l+f x
 |[],_,_=>by simp[Bu]
 |a::r,0,x=>by simp only[List.set_cons_zero,Bu];omega
 |a::r,i+1,x=>by have:=Bcu (f:=f) (l:=r) (i:=i) (x:=x);simp only[List.set_cons_succ,Bu];omega
theorem A3y (t:Cj) (s:Ak) (h:Co t+A5 s<=1073741824): ∃r b,Ut t s=some (r,(b,()))/\Qo t s=some (r,(b,()))/\Co r<=Co t+A5 s+1:=by
 unfold Ut Abk Qo Ajr
 simp only[Af,Ag,Aa,Aj]
 have hl:t.2.1.length<=Co t:=by simp only[Co];omega
 rw[Aio t zq0,Bl9 t zq0,Amg t zq0,Bha t zq0,Mx s zq0,Acd s zq0,Sa s zq0,Aab s zq0,Aac _ _ zq0,Bcf _ _ zq0,Bcg _ zq0,Blv _ zq0]
 simp only[Ae]
 cases Hm t with
 |false=>exact⟨t,1,rfl,rfl,by omega⟩
 |true=>
  cases Cs s with
  |false=>exact⟨t,1,rfl,rfl,by omega⟩
  |true=>
   simp only[Bool.not_true,Ao]
   cases s.2.2.2.2.2.2.2.2.2.2.2.2.2.2.2.2.2.2.2.2.2.2.2.1 with
   |true=>exact⟨t,1,rfl,rfl,by omega⟩
   |false=>
    simp only[Ao]
    cases decide (Fr t.2.1 s.2.2.1≥0)with
    |true=>exact⟨t,3,rfl,rfl,by omega⟩
    |false=>
     simp only[Ao]
     cases D0 t==t.1 with
     |true=>exact⟨t,7,rfl,rfl,by omega⟩
     |false=>
      simp only[Ao]
      cases (t.2.1.length:Int)==12 with
      |true=>exact⟨t,7,rfl,rfl,by omega⟩
      |false=>
       simp only[Ao]
       rw[Al zq1,Ba]
       refine⟨_,0,rfl,rfl,?_⟩
       simp only[Co,Sd,Bu,List.length_append,List.length_cons,List.length_nil]
       omega
def Nk (k l:List YB):List YB×Bool:=if l.length<=100/\k.length<=1048576 then(H3 k (l++[((1:Int),())]),true)else([],false)
theorem Bjg (k l:List YB):Ap4 (k,()) (l,()) ((32:Int),())=some (((Nk k l).1,()),((Nk k l).2,())):=by
 unfold Ap4 Ao7 Nk
 simp only[Af,Ag,Aa,Aj,Cd,Ae]
 rw[Di zq7]
 by_cases hl:l.length<=100
 .rw[Bp zq0,Ao]
  by_cases hk:k.length<=1048576
  .rw[Bp zq0,Ao,if_pos ⟨hl,hk⟩]
   have h32:(H3 k (l++[((1:Int),())])).length=32:=Od _ _ hk zq1
   have e1:Nz (k,l,(32:Int),[],[],(1:Int),())=some (.inl (k,l,(32:Int),H3 k (l++[((1:Int),())]),H3 k (l++[((1:Int),())]),(2:Int),())):=by
    unfold Nz
    simp only[Af,Ag,Aa,Aj]
    rw[Al zq3,A9,Ht _ zq5 zq3,Ae,show cat [([],()),(l,()),([(IntKind.u8.wrap 1,())],())]=l++[((1:Int),())] by simp[cat];rfl,Amj,Ae,Al (by dsimp only[List.length_nil];omega),Ba,List.nil_append]
    rfl
   have e2:Nz (k,l,(32:Int),H3 k (l++[((1:Int),())]),H3 k (l++[((1:Int),())]),(2:Int),())=some (.inr ((32:Int),H3 k (l++[((1:Int),())]),())):=by
    unfold Nz
    simp only[Af,Ag,Aa,Aj]
    rw[Bp zq0,Ao]
   rw[Eg,e1]
   simp only
   rw[Eg,e2]
   simp only[Ae]
   rw[Al zq0,Ba,Al zq0,Ba,show(32:Int).toNat=32 from rfl,show(0:Int).toNat=0 from rfl,List.drop_zero,List.take_of_length_le zq0,Ch _ zq2,Ae]
  .rw[Al zq0,A9,if_neg (fun h=>hk h.2)]
 .rw[Al zq0,A9,if_neg (fun h=>hl h.1)]
theorem Bjh (k l:List YB):Apr (k,()) (l,()) ((32:Int),())=some (((Nk k l).1,()),((Nk k l).2,())):=by
 unfold Apr Ana Nk
 simp only[Af,Ag,Aa,Aj,Cq,Ae,List.nil_append,List.length_nil,Nat.zero_add]
 rw[Di zq7]
 by_cases hl:l.length<=100
 .rw[Bp zq0,Ao]
  by_cases hk:k.length<=1048576
  .rw[Bp zq0,Ao,if_pos ⟨hl,hk⟩]
   have h32:(H3 k (l++[((1:Int),())])).length=32:=Od _ _ hk zq1
   have e1:Nq (k,l,(32:Int),[],[],(1:Int),())=some (.inl (k,l,(32:Int),H3 k (l++[((1:Int),())]),H3 k (l++[((1:Int),())]),(2:Int),())):=by
    unfold Nq
    simp only[Af,Ag,Aa,Aj,List.nil_append,List.length_nil,Nat.zero_add]
    rw[Al zq3,A9,Al zq0,Ba,Al zq0,Ba,Al zq1,Ba,show(IntKind.u8.wrap 1:Int)=1 from rfl,Amk,Ae,Al zq2,Ba]
    rfl
   have e2:Nq (k,l,(32:Int),H3 k (l++[((1:Int),())]),H3 k (l++[((1:Int),())]),(2:Int),())=some (.inr ((32:Int),H3 k (l++[((1:Int),())]),())):=by
    unfold Nq
    simp only[Af,Ag,Aa,Aj]
    rw[Bp zq0,Ao]
   rw[Eg,e1]
   simp only
   rw[Eg,e2]
   simp only[Ae]
   rw[Al zq0,Ba,Al zq0,Ba,show(32:Int).toNat=32 from rfl,show(0:Int).toNat=0 from rfl,List.drop_zero,List.take_of_length_le zq0,Al zq0,Ba]
  .rw[Al zq0,A9,if_neg (fun h=>hk h.2)]
 .rw[Al zq0,A9,if_neg (fun h=>hl h.1)]
def Gg (k l:List YB):List YB:=(Nk k l).1
theorem Aqr (k l:List YB):(Gg k l).length=32\/(Gg k l).length=0:=by
 unfold Gg Nk
 split
 .exact Aql _ _
 .right;rfl
theorem A00 (k:List YB) (b:ByteArray) (h:b.size<=4294967296):Mt (k,()) (b,())=some (Gg k (Kf b),()):=by
 unfold Mt Ao8
 simp only[Ag,Aa,Aj]
 rw[Al h,Ba,Bjg,Ae];rfl
theorem Aqs (k:List YB) (b:ByteArray) (h:b.size<=4294967296):Dp (k,()) (b,())=some (Gg k (Kf b),()):=by
 unfold Dp Anb
 simp only[Ag,Aa,Aj]
 rw[Al h,Ba,Bjh,Ae];rfl
def Qb:List YB:=Kf (Da [114,101,107,101,121])
def Bcv:List YB:=Kf (Da [101,112,111,99,104])
theorem A8d (k:List YB):Mt (k,()) (Da [114,101,107,101,121],())=some (Gg k Qb,()):=A00 k _ zq7
theorem Aip (k:List YB):Dp (k,()) (Da [114,101,107,101,121],())=some (Gg k Qb,()):=Aqs k _ zq7
theorem Bma (k:List YB):Mt (k,()) (Da [101,112,111,99,104],())=some (Gg k Bcv,()):=A00 k _ zq7
theorem Bmb (k:List YB):Dp (k,()) (Da [101,112,111,99,104],())=some (Gg k Bcv,()):=Aqs k _ zq7
def Aml (k:List YB):Nat->List YB
 |0=>k
 |n+1=>Gg (Aml k n) Qb
def Amm (k:List YB) (n:Int):List YB:=if 0<=n/\n<=64 then Aml k n.toNat else []
theorem Bqp (k:List YB) (n:Int) (h:k.length<=4294967296):Au0 (k,()) (n,())=some (Amm k n,()):=by
 unfold Au0 Aui Amm
 simp only[Af,Ag,Aa,Cd,Ae]
 by_cases hn:0<=n/\n<=64
 .obtain⟨m,rfl⟩:=Int.eq_ofNat_of_zero_le hn.1
  have hr:=Ct (B:=Qk) m (fun i=>((m:Int),Aml k i,(i:Int),())) (Aml k m,())
   (fun i hi=>by
    unfold Qk
    simp only[Af,Ag,Aa]
    rw[Al zq0,A9,A8d,Ae,w64 zq0]
    rfl)
   (by
    unfold Qk
    simp only[Af,Ag,Aa]
    rw[Bp zq0,Ao])
  rw[Di zq8,Ch _ h,Ae,if_pos hn]
  rw[show Ay Qk ((m:Int),k,(0:Int),())=_ from hr,Ae]
  rfl
 .rw[if_neg hn,E0 zq8]
theorem Bqq (k:List YB) (n:Int) (h:k.length<=4294967296):Aut (k,()) (n,())=some (Amm k n,()):=by
 unfold Aut Atc Amm
 simp only[Af,Ag,Aa,Aj,Cq,Ae,List.nil_append,List.length_nil,Nat.zero_add]
 by_cases hn:0<=n/\n<=64
 .obtain⟨m,rfl⟩:=Int.eq_ofNat_of_zero_le hn.1
  have hr:=Ct (B:=Qf) m (fun i=>((m:Int),Aml k i,(i:Int),())) (Aml k m,())
   (fun i hi=>by
    unfold Qf
    simp only[Af,Ag,Aa]
    rw[Al zq0,A9,Aip,Ae,w64 zq0]
    rfl)
   (by
    unfold Qf
    simp only[Af,Ag,Aa]
    rw[Bp zq0,Ao])
  rw[Di zq8,Al h,Ba,if_pos hn]
  rw[show Ay Qf ((m:Int),k,(0:Int),())=_ from hr,Ae]
  rfl
 .rw[if_neg hn,E0 zq8]
def Lc (p a b:List YB):List YB:=if inR (p.length:Int) 1 32=true/\a.length=12/\b.length=12 then H3 (a++b) p else []
theorem Bmc (p a b:List YB):Ako (p,()) (a,()) (b,())=some (Lc p a b,()):=by
 unfold Ako Aj7 Lc Abo Abh
 simp only[Af,Ag,Aa,Awq,Hx,Ae,G7]
 cases inR (p.length:Int) 1 32 with
 |false=>rw[if_neg zq3];rfl
 |true=>
  simp only[Bool.not_true,Ao]
  by_cases h1:a.length=12
  .rw[Di (by simp[h1])]
   by_cases h2:b.length=12
   .rw[Di (by simp[h2]),Ht _ zq5 zq3,Ae,show cat [(a,()),(b,())]=a++b by simp[cat],Amj,if_pos ⟨trivial,h1,h2⟩];rfl
   .rw[E0 zq1,if_neg (fun h=>h2 h.2.2)]
  .rw[E0 zq1,if_neg (fun h=>h1 h.2.1)]
theorem Bmd (p a b:List YB):Aki (p,()) (a,()) (b,())=some (Lc p a b,()):=by
 unfold Aki Ajh Lc Abm Aa1
 simp only[Af,Ag,Aa,Aj,Aai,Ae,G7,List.nil_append,List.length_nil,Nat.zero_add]
 cases inR (p.length:Int) 1 32 with
 |false=>rw[if_neg zq3];rfl
 |true=>
  simp only[Bool.not_true,Ao]
  by_cases h1:a.length=12
  .rw[Di (by simp[h1])]
   by_cases h2:b.length=12
   .rw[Di (by simp[h2]),Al zq0,Ba,Al zq0,Ba,Amk,if_pos ⟨trivial,h1,h2⟩];rfl
   .rw[E0 zq1,if_neg (fun h=>h2 h.2.2)]
  .rw[E0 zq1,if_neg (fun h=>h1 h.2.1)]
def Iw (r:List YB):List YB:=if r.length=32 then Gg r Bcv else []
theorem Ave (r:List YB):(Iw r).length=32\/(Iw r).length=0:=by
 unfold Iw
 split
 .exact Aqr _ _
 .right;rfl
theorem Bji (r:List YB):Agv (r,())=some (Iw r,()):=by
 unfold Agv Af5 Iw
 simp only[Af,Ag,Aa,Bma,Ae]
 by_cases h:r.length=32
 .rw[if_pos h,Di (by simp[h])]
 .rw[if_neg h,E0 zq1]
theorem Bjj (r:List YB):Agl (r,())=some (Iw r,()):=by
 unfold Agl Ae5 Iw
 simp only[Af,Ag,Aa,Bmb,Ae]
 by_cases h:r.length=32
 .rw[if_pos h,Di (by simp[h])]
 .rw[if_neg h,E0 zq1]
def Lo (p a b:List YB) (n:Int):List YB:=if (Iw (Lc p a b)).length=0 then []else Amm (Iw (Lc p a b)) n
theorem Bjk (p a b:List YB) (n:YI):Xn (p,()) (a,()) (b,()) n=some (Lo p a b n.1,()):=by
 have hf:=Ave (Lc p a b)
 unfold Xn Af6 Lo
 simp only[Af,Ag,Aa,Bmc,Bji,Ae]
 by_cases h:(Iw (Lc p a b)).length=0
 .rw[if_pos h,E0 (by simp[h])]
 .rw[if_neg h,Di (by simp;intro e;rw[e]at h;exact h rfl),Bqp _ _ zq0];rfl
theorem Aec (p a b:List YB) (n:YI):Xh (p,()) (a,()) (b,()) n=some (Lo p a b n.1,()):=by
 have hf:=Ave (Lc p a b)
 unfold Xh Ae6 Lo
 simp only[Af,Ag,Aa,Bmd,Bjj,Ae]
 by_cases h:(Iw (Lc p a b)).length=0
 .rw[if_pos h,E0 (by simp[h]),List.eq_nil_of_length_eq_zero h]
 .rw[if_neg h,Di (by simp;intro e;rw[e]at h;exact h rfl),Bqq _ _ zq0];rfl
theorem Ag2:Ady=Ad4:=by
 have hr:=Ct (B:=Nr) 32 (fun i=>((i:Int),(0:Int),([]:List YI),(-1:Int),List.replicate i ((0:Int),()),())) ((0:Int),([]:List YI),(-1:Int),List.replicate 32 ((0:Int),()),())
  (fun i hi=>by
   unfold Nr
   simp only[Af,Aj,Aa]
   rw[Al zq0,A9,Al zq1,Ba,w64 zq0,List.replicate_succ']
   rfl)
  (by
   unfold Nr
   simp only[Af,Aj,Aa]
   rw[Bp zq0,Ao])
 unfold Ady Anr Ad4 Ao9
 simp only[Ag,Aa]
 rw[show Ay Nr ((0:Int),(0:Int),([]:List YI),(-1:Int),([]:List YI),())=_ from hr,Ae]
 rfl
def Ace:Dk:=((-1:Int),List.replicate 32 ((0:Int),()),())
theorem Ag3:Ad4=some Ace:=rfl
theorem Aqt (n:YI) (k:YBs): ∃r,On n k=some r/\Fm n k=some r/\C7 r<=64:=by
 unfold On Ah9 Fm Abz
 simp only[Af,Ag,Aa,Aj,Cd,Cq,Ae,Ag2,Ag3,List.nil_append,List.length_nil,Nat.zero_add]
 cases inR n.1 0 4294967295 with
 |false=>exact⟨_,rfl,rfl,by decide⟩
 |true=>
  simp only[Bool.not_true,Ao]
  by_cases h:k.1.length=32
  .have q:((k.1.length:Int) != 32)=false:=by simp[h]
   rw[q,Ch k zq0,Al zq0]
   simp only[Ao,Ae,Ba]
   refine⟨_,rfl,rfl,?_⟩
   simp only[C7,Ace,List.length_replicate];omega
  .have q:((k.1.length:Int) != 32)=true:=by simp;omega
   rw[q]
   exact⟨_,rfl,rfl,by decide⟩
theorem Bjl (n:YI) (a k:YBs): ∃r,Us n a k=some r/\Hf n a k=some r/\A7 r<=76:=by
 unfold Us Abj Hf Ub
 simp only[Af,Ag,Aa,Aj,Z9,Cq,Hx,Ae,Aem,List.nil_append,List.length_nil,Nat.zero_add]
 cases inR n.1 0 1 with
 |false=>exact⟨_,rfl,rfl,by decide⟩
 |true=>
  simp only[Bool.not_true,Ao]
  by_cases h1:a.1.length=12
  .have q1:((a.1.length:Int)==12)=true:=by simp[h1]
   have q2:((a.1.length:Int) != 12)=false:=by simp[h1]
   rw[q1,q2]
   simp only[Bool.not_true,Ao]
   by_cases h:k.1.length=32
   .have q:((k.1.length:Int) != 32)=false:=by simp[h]
    obtain⟨r,e1,e2,e3⟩:=Aqt ((0:Int),()) k
    rw[q,Ch a zq0,Al zq0,e1,e2]
    simp only[Ao,Ae,Ba]
    refine⟨_,rfl,rfl,?_⟩
    simp only[C7]at e3
    simp only[A7,List.length_nil];omega
   .have q:((k.1.length:Int) != 32)=true:=by simp;omega
    rw[q]
    exact⟨_,rfl,rfl,by decide⟩
  .have q1:((a.1.length:Int)==12)=false:=by simp;omega
   have q2:((a.1.length:Int) != 12)=true:=by simp;omega
   rw[q1,q2]
   exact⟨_,rfl,rfl,by decide⟩
theorem Bjm (p:YBs) (n:YI) (a:A6) (f:Ar) (h:Aq f<=1073741824): ∃r,Abp p n a f=some r/\Ks p n a f=some r/\A5 r<=Aq f+76:=by
 have hn:f.2.2.1.length+f.2.2.2.1.length<=Aq f:=by simp only[Aq];omega
 obtain⟨c,e1,e2,e3⟩:=Bjl ((1:Int),()) (f.2.2.2.1,()) (Lo p.1 f.2.2.1 f.2.2.2.1 0,())
 unfold Abp Aj8 Ks Qg Auz Af4 Li Ae8
 simp only[Af,Ag,Aa,Aj,Cd,Cq,Ae,Awq,Aai,Hs,Iv,List.nil_append,List.length_nil,Nat.zero_add]
 rw[Kv f,Jd f,Ae,Ae]
 have z:A5 ((0:Int),([]:List (Int×Unit)),([]:List (Int×Unit)),(0:Int),([]:List (Int×Unit)),(0:Int),([]:List (Int×Unit)),(0:Int),(0:Int),([]:List (Int×Unit)),(0:Int),([]:List (Int×Unit)),(0:Int),(0:Int),([]:List (Int×Unit)),false,(0:Int),([]:List (Int×Unit)),(0:Int),(0:Int),([]:List (Int×Int×(List (Int×Unit))×Int×Unit)),(0:Int),(0:Int),false,())<=Aq f+76:=by
  simp only[A5,Bu,List.length_nil];omega
 cases G7 p with
 |false=>exact⟨_,rfl,rfl,z⟩
 |true=>
  cases inR n.1 0 1000000 with
  |false=>exact⟨_,rfl,rfl,z⟩
  |true=>
   cases Ck a with
   |false=>exact⟨_,rfl,rfl,z⟩
   |true=>
    cases hk:(f.1 != (3:Int))with
    |true=>cases B7 f<;>exact⟨_,rfl,rfl,z⟩
    |false=>
     cases B7 f with
     |false=>exact⟨_,rfl,rfl,z⟩
     |true=>
      simp only[Bool.not_true,Ao]
      rw[Ch _ zq2,Ch _ zq2,Al zq0,Ba,Al zq0,Ba]
      simp only[Ae]
      rw[show Xn p (f.2.2.1,()) (f.2.2.2.1,()) ((0:Int),())=some (Lo p.1 f.2.2.1 f.2.2.2.1 0,())from Bjk _ _ _ _,show Xh p (f.2.2.1,()) (f.2.2.2.1,()) ((0:Int),())=some (Lo p.1 f.2.2.1 f.2.2.2.1 0,())from Aec _ _ _ _]
      simp only[Ae]
      rw[e1,e2]
      simp only[Ae]
      refine⟨_,rfl,rfl,?_⟩
      simp only[A7]at e3
      simp only[A5,Bu,List.length_nil];omega
theorem Aqu (d:Ar) (h:Aq d<=4294967296):Adx d=some d:=by
 simp only[Aq]at h
 unfold Adx Anp
 simp (disch:=first|omega|(dsimp only;omega)) only[Aj,Aa,List.length_nil,Nat.zero_add,List.nil_append,Al,Ba]
def Aiq:List YB:=[((114:Int),()),((111:Int),()),((108:Int),()),((108:Int),())]
def Oe (s:List YB) (n:Int):List YB:=if inR (s.length:Int) 1 32=true/\inR n 0 10000=true then(H3 s (Aiq++Fk n 4 4)).take 12 else []
theorem Bjn (s:List YB) (n:Int):(Oe s n).length<=12:=by
 unfold Oe
 split
 .simp;omega
 .simp
theorem Bom (s:List YB) (n:Int):Ap0 (s,()) (n,())=some (Oe s n,()):=by
 unfold Ap0 Ao5 Oe
 simp only[Af,Ag,Aa,Aj,Cd,Ae]
 cases h1:inR (s.length:Int) 1 32 with
 |false=>rw[if_neg zq3];rfl
 |true=>
  cases inR n 0 10000 with
  |false=>rw[if_neg zq3];rfl
  |true=>
   have:=Bj.1 h1
   have h32:(H3 s (Aiq++Fk n 4 4)).length=32:=Od _ _ zq0 (by simp[Gd,Aiq])
   simp only[Bool.not_true,Ao]
   rw[Oc _ _ zq3,Ae,Amj,Ae,if_pos ⟨trivial,trivial⟩,show([((114:Int),()),((111:Int),()),((108:Int),()),((108:Int),())]:List YB)=Aiq from rfl]
   rw[Al zq2,Ba,show(12:Int).toNat=12 from rfl,show(0:Int).toNat=0 from rfl,List.drop_zero,Ch _ zq1]
   rfl
theorem Bon (s:List YB) (n:Int):Apq (s,()) (n,())=some (Oe s n,()):=by
 unfold Apq Am9 Oe
 simp only[Af,Ag,Aa,Aj,Cq,Ae,List.length_nil,Nat.zero_add,List.nil_append]
 cases h1:inR (s.length:Int) 1 32 with
 |false=>rw[if_neg zq3];rfl
 |true=>
  cases inR n 0 10000 with
  |false=>rw[if_neg zq3];rfl
  |true=>
   have:=Bj.1 h1
   have h32:(H3 s (Aiq++Fk n 4 4)).length=32:=Od _ _ zq0 (by simp[Gd,Aiq])
   simp only[Bool.not_true,Ao]
   rw[Lb _ _ zq3,Ae,Amk,Ae,if_pos ⟨trivial,trivial⟩,show([((114:Int),()),((111:Int),()),((108:Int),()),((108:Int),())]:List YB)=Aiq from rfl]
   rw[Al zq2,Ba,show(12:Int).toNat=12 from rfl,show(0:Int).toNat=0 from rfl,List.drop_zero,Al zq1,Ba]
theorem Bme (d:Ge) (h:d.1.length<=4294967296):Akg d=some d:=by
 unfold Akg Ai8
 simp only[Aj,Aa,List.length_nil,Nat.zero_add,List.nil_append]
 rw[Al h];rfl
def G5 (d:Ge):Ge×List YB:=if F0 d=true/\d.2.1≠10000 then((d.1,d.2.1+1,()),Oe d.1 d.2.1)else(d,[])
theorem Bcw (d:Ge):(G5 d).1.1=d.1:=by unfold G5;split<;>rfl
theorem Boo (d:Ge):(G5 d).2.length<=12:=by
 unfold G5
 split
 .exact Bjn _ _
 .simp
theorem Bmf (d:Ge) (h:d.1.length<=4294967296):Ap1 d=some ((G5 d).1,((G5 d).2,())):=by
 unfold Ap1 A0a G5
 simp only[Af,Ag,Aa,Bcs,Bom]
 rw[Ch _ h]
 simp only[Ae]
 cases hd:F0 d with
 |false=>rw[if_neg zq3];rfl
 |true=>
  simp only[Bool.not_true,Ao]
  by_cases h1:d.2.1=10000
  .rw[E0 (by simp[h1]),if_neg (fun h=>h.2 h1)]
  .have:=Bj.1 (show inR d.2.1 0 10000=true by unfold F0 at hd;simp only[Bool.and_eq_true]at hd;exact hd.2)
   rw[Di (by simp[h1]),if_pos ⟨trivial,h1⟩,w64 zq0]
theorem Bmg (d:Ge) (h:d.1.length<=4294967296):A0m d=some ((G5 d).1,((G5 d).2,())):=by
 unfold A0m Azr G5
 simp only[Af,Ag,Aa,Bct,Bon]
 rw[Bme _ h]
 simp only[Ae]
 cases hd:F0 d with
 |false=>rw[if_neg zq3];rfl
 |true=>
  simp only[Bool.not_true,Ao]
  by_cases h1:d.2.1=10000
  .rw[E0 (by simp[h1]),if_neg (fun h=>h.2 h1)]
  .have:=Bj.1 (show inR d.2.1 0 10000=true by unfold F0 at hd;simp only[Bool.and_eq_true]at hd;exact hd.2)
   rw[Di (by simp[h1]),if_pos ⟨trivial,h1⟩,w64 zq0]
def Xy (r:List YB):List YB:=if r.length=12 then Gg r (Kf (Da [106,97,114]))else []
theorem Bjo (r:List YB):(Xy r).length<=32:=by
 unfold Xy
 split
 .have:=Aqr r (Kf (Da [106,97,114]));omega
 .simp
theorem Bcx (r:List YB):Aps (r,())=some (Xy r,()):=by
 unfold Aps Anc Xy
 simp only[Af,Ag,Aa]
 rw[Aqs _ _ zq7]
 by_cases h:r.length=12
 .rw[if_pos h,Di (by simp[h])];rfl
 .rw[if_neg h,E0 zq1]
theorem Bjp (l:List YBs) (h:l.length+Bu E6 l<=4294967296):Agq (l,())=some (l,()):=by
 have hl:=Ct (B:=K4) l.length (fun i=>(l.take i,l,(l.length:Int),(i:Int),())) (l,())
  (fun i hi=>by
   have hx:=List.getElem?_eq_getElem hi
   have h2:=Ob (f:=E6) hx
   simp only[E6]at h2
   unfold K4
   simp only[Af,Ag,Aa,Aj,Dm hi,A9,B9 hx,Ae]
   rw[Ch _ zq0,Ae,Al zq1,Ba,w64 zq0]
   exact congrArg (fun t=>some (Sum.inl (t,l,(l.length:Int),(i:Int)+1,()))) (E9 hx))
  (by unfold K4;simp only[Af,Aa,Dn,Ao,List.take_length])
 unfold Agq Afh
 simp only[Ag,Aa]
 rw[show Ay K4 ([],l,(l.length:Int),(0:Int),())=_ from hl]
 rfl
theorem A8e (l:List YBs) (h:l.length+Bu E6 l<=4294967296) (j sd:List YB) (n c:Int) (ss:List Ak):
  Ay Jr (l,(0:Int),[],[],[],(0:Int),(0:Int),[],[],[],j,sd,n,c,ss,[],())=some ([],[],[],(0:Int),(0:Int),[],[],l,j,sd,n,c,ss,[],()):=by
 have hl:=Ct (B:=Jr) l.length (fun i=>(l,(i:Int),[],[],[],(0:Int),(0:Int),[],[],l.take i,j,sd,n,c,ss,[],())) ([],[],[],(0:Int),(0:Int),[],[],l,j,sd,n,c,ss,[],())
  (fun i hi=>by
   have hx:=List.getElem?_eq_getElem hi
   have h2:=Ob (f:=E6) hx
   simp only[E6]at h2
   unfold Jr
   simp only[Af,Ag,Aa,Aj,Dm hi,A9,B9 hx,Ae,List.length_nil,Nat.zero_add,List.nil_append]
   rw[Al zq0,Ba,Al zq1,Ba,w64 zq0]
   exact congrArg (fun t=>some (Sum.inl (l,(i:Int)+1,[],[],[],(0:Int),(0:Int),[],[],t,j,sd,n,c,ss,[],()))) (E9 hx))
  (by unfold Jr;simp only[Af,Aa,Dn,Ao,List.take_length])
 exact hl
theorem Bmh (k:List YB) (r:Int) (sn:List YB) (ep seq kind:Int) (p:List YB):(Gq k r sn ep seq kind p).2.1=Mw k r sn ep seq kind p:=by
 unfold Gq
 cases Mw k r sn ep seq kind p<;>rfl
theorem Bop (r:Int) (sn:List YB) (ep seq:Int):(((Ei r sn ep seq).length:Int)==0)= !Hy r sn ep seq:=by
 rw[Ot]
 cases Hy r sn ep seq<;>rfl
def Avf (e:YEp):YEp:=(e.1,e.2.1,e.2.2.1+1,e.2.2.2.1,e.2.2.2.2.1,())
theorem Bqr {e:YEp} (h:Fv e=true) (hs:e.2.2.1≠281474976710656):Fv (Avf e)=true:=by
 unfold Fv at h ⊢
 simp only[Bool.and_eq_true,Bj,Avf]at h ⊢
 exact⟨h.1,h.2.1,⟨by omega,by omega⟩,h.2.2.2⟩
def EpS (e:YEp) (role:Int) (sn:List YB) (k:Int) (p:List YB) (e':YEp) (f:Ar) (c:Int):Prop:=
 C7 e'=C7 e/\Aq f<=sn.length+p.length+32/\(c≠0->e'=e)/\(c=0->Fv e=true/\Fv e'=true/\e'.1=e.1/\e'.2.1=e.2.1/\f=(Gq e.2.1 role sn e.1 e.2.2.1 k p).1/\Mw e.2.1 role sn e.1 e.2.2.1 k p=true)
theorem Bmi (e:YEp) (role:Int) (sn:List YB) (k:Int) (p:List YB) (h:C7 e+sn.length+p.length<=67108864):
  ∃(e':YEp) (f:Ar) (c:Int),Ap6 e (role,()) (sn,()) (k,()) (p,())=some (e',f,(c,()))/\Aqc e (role,()) (sn,()) (k,()) (p,())=some (e',f,(c,()))/\EpS e role sn k p e' f c:=by
 have hn:=Bf1 e.2.1 role sn e.1 e.2.2.1 k p
 have he:C7 e=e.2.1.length+e.2.2.2.2.1.length:=rfl
 have none: ∀ {c:Int},c≠0-> ∃(e':YEp) (f:Ar) (c':Int),some (e,Hz,(c,()))=some (e',f,(c',()))/\some (e,Hz,(c,()))=some (e',f,(c',()))/\EpS e role sn k p e' f c':=fun {c} hc=>
  ⟨e,Hz,c,rfl,rfl,rfl,by simp[Aq,Hz],fun _=>rfl,fun h=>(hc h).elim⟩
 unfold Ap6 Apd Aqc A3i
 simp only[Af,Ag,Aa]
 rw[A0z e zq0,Aqp e zq0,A3q e zq0,Bcd e]
 simp only[Ae]
 cases ho:Fv e with
 |false=>exact none (c:=1) zq7
 |true=>
  have hk:((e.2.1.length:Int)==32)=true:=by unfold Fv at ho;simp only[Bool.and_eq_true]at ho;exact ho.2.1
  have hseq:inR e.2.2.1 0 281474976710656=true:=by unfold Fv at ho;simp only[Bool.and_eq_true]at ho;exact ho.2.2.1
  rw[Bj]at hseq
  simp only[Bool.not_true,Ao]
  rw[Bl7 _ _ _ _ _ _ _ zq0 zq0,Ae,Aqo,Ae,Aaf,Ae,A0w,Ae]
  simp only[Bmh,Bop]
  unfold Mw
  rw[hk]
  simp only[Bool.true_and]
  cases hd:Hy role sn e.1 0 with
  |false=>exact none (c:=1) zq7
  |true=>
   cases hkd:inR k 4 8 with
   |false=>exact none (c:=1) zq7
   |true=>
    cases hb:Jc k (p.length:Int)with
    |false=>exact none (c:=1) zq7
    |true=>
     simp only[Bool.and_self,Bool.not_true,Ao]
     have fin:e.2.2.1≠281474976710656-> ∃(e':YEp) (f:Ar) (c':Int),some (Avf e,(Gq e.2.1 role sn e.1 e.2.2.1 k p).1,((0:Int),()))=some (e',f,(c',()))/\some (Avf e,(Gq e.2.1 role sn e.1 e.2.2.1 k p).1,((0:Int),()))=some (e',f,(c',()))/\EpS e role sn k p e' f c':=fun hs=>
      ⟨Avf e,_,0,rfl,rfl,rfl,hn,fun h=>(h rfl).elim,fun _=>⟨ho,Bqr ho hs,rfl,rfl,rfl,by
       unfold Mw
       rw[hk,hkd,hb]
       unfold Hy at hd ⊢
       simp only[Bool.and_eq_true,Bj,Bool.and_true]at hd ⊢
       exact⟨trivial,hd.1,hd.2.1,hd.2.2.1,by omega,by omega⟩⟩⟩
     rw[Bl7 _ _ _ _ _ _ _ zq0 zq0,Bl8 _ _ _ _ _ _ _ zq0 zq0]
     simp only[Ae]
     have go:br (e.2.2.1==(281474976710656:Int)) (some (e,Hz,((5:Int),()))) (some ((e.1,e.2.1,(IntKind.i64.wrap (e.2.2.1+(1:Int))),e.2.2.2.1,e.2.2.2.2.1,()),(Gq e.2.1 role sn e.1 e.2.2.1 k p).1,((0:Int),())))=if e.2.2.1=281474976710656 then some (e,Hz,((5:Int),()))else some (Avf e,(Gq e.2.1 role sn e.1 e.2.2.1 k p).1,((0:Int),())):=by
      by_cases h5:e.2.2.1=281474976710656
      .rw[if_pos h5,E0 (by simp[h5])]
      .rw[if_neg h5,Di (by simp[h5]),w64 zq0];rfl
     have fin2: ∃(e':YEp) (f:Ar) (c':Int),(if e.2.2.1=281474976710656 then some (e,Hz,((5:Int),()))else some (Avf e,(Gq e.2.1 role sn e.1 e.2.2.1 k p).1,((0:Int),())))=some (e',f,(c',()))/\(if e.2.2.1=281474976710656 then some (e,Hz,((5:Int),()))else some (Avf e,(Gq e.2.1 role sn e.1 e.2.2.1 k p).1,((0:Int),())))=some (e',f,(c',()))/\EpS e role sn k p e' f c':=by
      by_cases h5:e.2.2.1=281474976710656
      .rw[if_pos h5];exact none (c:=5) zq7
      .rw[if_neg h5];exact fin h5
     cases hk4:(k==(4:Int))with
     |false=>
      simp only[Ao]
      exact go▸fin2
     |true=>
      simp only[A9]
      by_cases h4:e.2.2.1≥281474976709656
      .rw[Al h4,A9];exact none (c:=4) zq7
      .rw[Bp h4,Ao]
       exact go▸fin2
def Gx (c:Ap) (e:YEp):Ap:=(c.1,c.2.1,e.1,e.2.1,e.2.2.1,e.2.2.2.1,e.2.2.2.2.1,c.2.2.2.2.2.2.2.1,c.2.2.2.2.2.2.2.2.1,c.2.2.2.2.2.2.2.2.2.1,c.2.2.2.2.2.2.2.2.2.2.1,c.2.2.2.2.2.2.2.2.2.2.2.1,c.2.2.2.2.2.2.2.2.2.2.2.2.1,c.2.2.2.2.2.2.2.2.2.2.2.2.2.1,c.2.2.2.2.2.2.2.2.2.2.2.2.2.2.1,())
theorem A3z {c:Ap} {e:YEp} (h:Ci c=true) (he:Fv e=true) (h1:e.1=c.2.2.1):Ci (Gx c e)=true:=by
 have e1:Lq (Gx c e)=e:=rfl
 have e2:Lr (Gx c e)=Lr c:=by
  unfold Lr
  have:(Gx c e).2.2.1=c.2.2.1:=h1
  simp only[this]
  rfl
 unfold Ci at h ⊢
 rw[e1,e2]
 simp only[Bool.not_not,Bool.and_eq_true]at h ⊢
 refine⟨h.1,h.2.1,he,h.2.2.2.1,?_⟩
 have:=h.2.2.2.2
 simp only[Gx,J6,h1]at this ⊢
 exact this
theorem Bcy (c:Ap) (e:YEp) (h:C7 e=C7 (Lq c)):A7 (Gx c e)=A7 c:=by
 simp only[C7,Lq]at h
 simp only[A7,Gx]
 omega
def ChS (c:Ap) (k:Int) (p:List YB) (c':Ap) (f:Ar) (z:Int):Prop:=
 ∃e':YEp,c'=Gx c e'/\A7 c'=A7 c/\Aq f<=A7 c+p.length+32/\(z≠0->c'=c)/\
  (z=0->Ci c=true/\Ci c'=true/\e'.1=c.2.2.1/\e'.2.1=c.2.2.2.1/\f=(Gq c.2.2.2.1 c.1 c.2.1 c.2.2.1 c.2.2.2.2.1 k p).1/\Mw c.2.2.2.1 c.1 c.2.1 c.2.2.1 c.2.2.2.2.1 k p=true)
theorem Gt (c:Ap) (k:Int) (p:List YB) (h:A7 c+p.length<=67108864):
  ∃(c':Ap) (f:Ar) (z:Int),Cn c (k,()) (p,())=some (c',f,(z,()))/\Dq c (k,()) (p,())=some (c',f,(z,()))/\ChS c k p c' f z:=by
 have hc:=h
 simp only[A7]at hc
 unfold Cn Af9 Dq Au2
 simp only[Af,Ag,Aa]
 rw[Tm c zq0,Sc c zq0,Vw c A51 A52,R9 c]
 simp only[Ae]
 cases ho:Ci c with
 |false=>exact⟨c,Hz,1,rfl,rfl,Lq c,rfl,rfl,by simp[Aq,Hz],fun _=>rfl,fun h=>by cases h⟩
 |true=>
  simp only[Bool.not_true,Ao]
  obtain⟨e',f,z,h1,h2,h3,h4,h5,h6⟩:=Bmi (Lq c) c.1 c.2.1 k p (by simp only[C7,Lq];omega)
  have hn:=Bcy c e' h3
  rw[h1,h2,Ae,Ae]
  have hf:Aq f<=A7 c+p.length+32:=by simp only[A7];omega
  by_cases hz:z=0
  .subst hz
   obtain⟨q1,q2,q3,q4,q5,q6⟩:=h6 rfl
   exact⟨Gx c e',f,0,rfl,rfl,e',rfl,hn,hf,fun h=>(h rfl).elim,fun _=>⟨ho,A3z ho q2 q3,q3,q4,q5,q6⟩⟩
  .have he:=h5 hz
   subst he
   refine⟨c,f,z,rfl,?_,Lq c,rfl,rfl,hf,fun _=>rfl,fun h=>(hz h).elim⟩
   rw[Di (by simpa using hz)]
def Uw (n:Int):List YB:=bif inR n 0 4294967295 then Fk n 4 4 else []
theorem A8f (n:Int):(Uw n).length<=4:=by unfold Uw;cases inR n 0 4294967295<;>simp[Gd]
theorem Ay2 (n:Int):Vf (n,())=some (Uw n,()):=by
 unfold Vf Ac4 Uw
 simp only[Af,Ag,Aa,Cd,Ae]
 cases inR n 0 4294967295 with
 |false=>rfl
 |true=>simp only[Bool.not_true,Ao];rw[Oc _ _ zq3,Ae];rfl
theorem Akw (n:Int):Fd (n,())=some (Uw n,()):=by
 unfold Fd Acr Uw
 simp only[Af,Ag,Aa,Cq,Ae]
 cases inR n 0 4294967295 with
 |false=>rfl
 |true=>simp only[Bool.not_true,Ao];rw[Lb _ _ zq3,Ae];rfl
theorem A30 (c:Ap) (h:A7 c<=67000000):
  ∃(c':Ap) (f:Ar) (z:Int),Ael c=some (c',f,(z,()))/\Ama c=some (c',f,(z,()))/\A7 c'=A7 c/\Aq f<=A7 c+36/\(z=0->ChS c 8 (Uw c.2.2.1) c' f 0):=by
 have hc:=h
 have hl:=A8f c.2.2.1
 simp only[A7]at hc
 unfold Ael A5u Ama Bg6
 simp only[Af,Ag,Aa]
 rw[Tm c zq0,Sc c zq0,Vw c A51 A52,R9 c]
 simp only[Ae]
 cases ho:Ci c with
 |false=>exact⟨c,Hz,6,rfl,rfl,rfl,by simp[Aq,Hz],fun h=>by cases h⟩
 |true=>
  simp only[Bool.not_true,Ao]
  cases hx:(c.1 != (1:Int))with
  |true=>exact⟨c,Hz,6,rfl,rfl,rfl,by simp[Aq,Hz],fun h=>by cases h⟩
  |false=>
   simp only[Ao]
   rw[Ay2,Akw,Ae,Ae]
   obtain⟨c',f,z,h1,h2,h3⟩:=Gt c 8 (Uw c.2.2.1) zq0
   rw[h1,h2,Ae]
   have h3':=h3
   obtain⟨e',q1,q2,q3,q4,q5⟩:=h3
   exact⟨c',f,z,rfl,rfl,q2,by omega,fun hz=>hz▸h3'⟩
def Ls (k b:List YB):Ax:=((15:Int),(0:Int),(0:Int),[],[],(0:Int),(0:Int),b,k,(0:Int),(0:Int),(0:Int),())
theorem Bmj (k b:List YB) (h1:k.length<=4294967296) (h2:b.length<=4294967296):Ap3 (k,()) (b,())=some (Ls k b):=by
 unfold Ap3 A0e Ls
 simp only[Ag,Aa]
 rw[Ch _ h1,Ae,Ch _ h2,Ae]
theorem Brz (k b:List YB) (h1:k.length<=4294967296) (h2:b.length<=4294967296):A0q (k,()) (b,())=some (Ls k b):=by
 unfold A0q Bb8 Ls
 simp only[Aj,Aa,List.length_nil,Nat.zero_add,List.nil_append]
 rw[Al h1,Ba,Al h2,Ba]
def Gy (c:Ap) (f:Ar):Ax:=Ls c.2.2.2.1 (D3 c.1 f)
theorem Ii (c:Ap) (f:Ar) (h1:c.2.2.2.1.length<=4294967296) (h2:Aq f<=536870912):Ie c f=some (Gy c f):=by
 have ht:=Abq c.1 f
 unfold Ie Ape Gy
 simp only[Ag,Aa]
 rw[Tl _ _ h2,Ae,Bmj _ _ h1 zq0,Ae]
theorem Jf (c:Ap) (f:Ar) (h1:c.2.2.2.1.length<=4294967296) (h2:Aq f<=536870912):Hg c f=some (Gy c f):=by
 have ht:=Abq c.1 f
 unfold Hg Ayy Gy
 simp only[Ag,Aa]
 rw[Xx _ _ h2,Ae,Brz _ _ h1 zq0,Ae]
theorem Bjq (c:Ap) (f:Ar):Gb (Gy c f)<=A7 c+Aq f+32:=by
 have ht:=Abq c.1 f
 simp only[Gb,Gy,Ls,A7,List.length_nil]
 omega
theorem Er (c:Ap):c.2.2.2.1.length<=A7 c:=by simp only[A7];omega
theorem Abr (s:Ak):A7 (Cm s)<=A5 s:=by simp only[A7,Cm,A5];omega
def Xz (s:Ak) (c:Ap):Ak:=(s.1,s.2.1,s.2.2.1,c.1,c.2.1,c.2.2.1,c.2.2.2.1,c.2.2.2.2.1,c.2.2.2.2.2.1,c.2.2.2.2.2.2.1,c.2.2.2.2.2.2.2.1,c.2.2.2.2.2.2.2.2.1,c.2.2.2.2.2.2.2.2.2.1,c.2.2.2.2.2.2.2.2.2.2.1,c.2.2.2.2.2.2.2.2.2.2.2.1,c.2.2.2.2.2.2.2.2.2.2.2.2.1,c.2.2.2.2.2.2.2.2.2.2.2.2.2.1,c.2.2.2.2.2.2.2.2.2.2.2.2.2.2.1,s.2.2.2.2.2.2.2.2.2.2.2.2.2.2.2.2.2.2)
theorem Bf2 {s:Ak} {c:Ap} (h:A7 c<=A7 (Cm s)):A5 (Xz s c)<=A5 s:=by
 simp only[A7,Cm]at h
 simp only[A5,Xz];omega
theorem Bmk {s:Ak} {c:Ap} (h:Cs s=true) (hd:C4 s=false) (hc:Ci c=true) (h1:c.1=(Cm s).1) (h2:c.2.1=(Cm s).2.1):Cs (Xz s c)=true:=by
 have e1:C4 (Xz s c)=C4 s:=rfl
 have e2:Cm (Xz s c)=c:=rfl
 have e3:Bm (Xz s c)=Bm s:=rfl
 unfold Cs at h ⊢
 rw[e1,e2,e3]
 rw[hd]at h ⊢
 simp only[cond_false,Bool.and_eq_true]at h ⊢
 refine⟨h.1,h.2.1,h.2.2.1,h.2.2.2.1,hc,?_,?_,h.2.2.2.2.2.2.2⟩
 .have:=h.2.2.2.2.2.1
  simp only[Xz,h1,Cm];exact this
 .have:=h.2.2.2.2.2.2.1
  simp only[Xz,h2,Cm];exact this
def SeR (s:Ak) (m:Nat) (r:Ak) (os:List Bc) (ns:List Ax):Prop:=
 A5 r<=A5 s/\os.length+Bu Ig os<=A5 s+m+99/\ns.length+Bu Gb ns<=4*(A5 s+m+99)/\(Cs s=true->C4 s=false->Cs r=true/\r.2.2.1=s.2.2.1/\C4 r=false)
theorem SeR.none {s:Ak} {m:Nat}:SeR s m s [] []:=⟨Nat.le_refl _,by simp[Bu],by simp[Bu],fun h hd=>⟨h,rfl,hd⟩⟩
theorem Bjr (s:Ak) (h:A5 s<=8388608):
  ∃r os ns,Nh s=some (r,(os,()),(ns,()))/\Ay0 s=some (r,(os,()),(ns,()))/\SeR s 0 r os ns:=by
 have hch:=Abr s
 unfold Nh Abl Ay0 Ayz
 simp only[Af,Ag,Aa,Aj]
 rw[Mx s zq0,Acd s zq0,Sa s zq0,Aab s zq0]
 simp only[Ae]
 have nope: ∃r os ns,some (s,(([]:List Bc),()),(([]:List Ax),()))=some (r,(os,()),(ns,()))/\some (s,(([]:List Bc),()),(([]:List Ax),()))=some (r,(os,()),(ns,()))/\SeR s 0 r os ns:=
  ⟨s,[],[],rfl,rfl,.none⟩
 cases ho:Cs s with
 |false=>exact nope
 |true=>
  simp only[Bool.not_true,Ao]
  by_cases hd0:s.2.2.2.2.2.2.2.2.2.2.2.2.2.2.2.2.2.2.2.2.2.2.2.1=true
  .rw[E0 hd0,E0 hd0];exact nope
  .have hd:s.2.2.2.2.2.2.2.2.2.2.2.2.2.2.2.2.2.2.2.2.2.2.2.1=false:=by simpa using hd0
   rw[Di hd,Di hd]
   cases (s.2.2.2.2.2.1 != (0:Int))with
   |true=>exact nope
   |false=>
    simp only[Ao]
    obtain⟨c',f,z,a1,a2,a3,a4,a5⟩:=A30 (Cm s) zq0
    rw[a1,a2]
    simp only[Ae]
    have hk:=Er c'
    have hm:=Bjq c' f
    by_cases z0:z=0
    .have ez:(z != (0:Int))=false:=by simp[z0]
     simp only[ez,Ao]
     rw[Ii _ _ zq0 zq0,Jf _ _ zq0 zq0]
     simp only[Ae]
     obtain⟨e',q1,q2,q3,q4,q5⟩:=a5 z0
     obtain⟨r1,r2,r3⟩:=q5 rfl
     refine⟨Xz s c',_,_,rfl,rfl,Bf2 zq0,?_,?_,fun _ _=>⟨Bmk ho hd r2 (by rw[q1];rfl) (by rw[q1];rfl),rfl,hd⟩⟩
     .simp only[Bu,Ig,List.length_cons,List.length_nil]
      simp only[Aq]at a4;omega
     .simp only[Bu,List.length_cons,List.length_nil];omega
    .have ez:(z != (0:Int))=true:=by simpa using z0
     simp only[ez,A9]
     exact nope
theorem Adc (l:List Am) (h:l.length<=4294967296):Mq (l,())=some (l,()):=by
 unfold Mq Wz
 simp only[Aj,Aa,List.length_nil,Nat.zero_add,List.nil_append]
 rw[Al h];rfl
theorem Bcz (s:Bs) (h:Br s<=4294967296):Zz s=some s:=by
 have h':=h
 simp only[Br]at h
 unfold Zz Zs
 simp (disch:=first|omega|(dsimp only;omega)|(simp only[Co];omega)) only[Ag,Aa,Bjp,Ch,Aio,Adc,Ae]
def wfB (l:List YB):Prop:=∀(i:Nat) (x:YB),l[i]? =some x->0<=x.1/\x.1<=255
theorem Bc0 {a:YB} {l:List YB} (h:wfB (a::l)):(0<=a.1/\a.1<=255)/\wfB l:=⟨h 0 a rfl,fun i x hx=>h (i+1) x (by simpa using hx)⟩
theorem Br0 {n m:Int} (hn:0<=n/\n<=255) (hm:0<=m/\m<=255) (h:UInt8.ofNat n.toNat=UInt8.ofNat m.toNat):n=m:=by
 have:=congrArg UInt8.toNat h
 simp only[UInt8.toNat_ofNat']at this
 omega
theorem Bhg: ∀ {a b:List YB},wfB a->wfB b->(a.map fun d=>UInt8.ofNat (Int.toNat d.1))=(b.map fun d=>UInt8.ofNat (Int.toNat d.1))->a=b
 |[],[],_,_,_=>rfl
 |x::a,y::b,ha,hb,h=>by
  simp only[List.map_cons,List.cons.injEq]at h
  obtain⟨x1,x2⟩:=Bc0 ha
  obtain⟨y1,y2⟩:=Bc0 hb
  have e:=Br0 x1 y1 h.1
  have e2:=Bhg x2 y2 h.2
  obtain⟨n,⟨⟩⟩:=x
  obtain⟨m,⟨⟩⟩:=y
  simp only at e
  rw[e,e2]
 |[],_::_,_,_,h=>by simp at h
 |_::_,[],_,_,h=>by simp at h
theorem Bc1 {a b:List YB} (ha:wfB a) (hb:wfB b) (h:Dz a b=true):a=b:=by
 unfold Dz at h
 have h1:T0 a=T0 b:=by simpa using h
 unfold T0 at h1
 simp only[ByteArray.mk.injEq]at h1
 exact Bhg ha hb (by simpa using h1)
theorem Bml {k:List YB} {r:Int} {sn:List YB} {ep seq kind:Int} {p:List YB} (h:Mw k r sn ep seq kind p=true):(Gq k r sn ep seq kind p).1.2.2.2.1=sn:=by
 unfold Gq
 rw[h];rfl
def Fa (l:List Ak):Nat:=l.countP fun x=> !C4 x
theorem Kl (t:Cj) (h:t.2.1.length<=4294967296):D0 t=(Fa t.2.1:Nat):=by
 obtain⟨cap,l,⟨⟩⟩:=t
 simp only at h
 have hl:=Ct (B:=Kd) l.length (fun i=>(((Fa (l.take i):Nat):Int),l,(l.length:Int),(i:Int),())) (((Fa l:Nat):Int),())
  (fun i hi=>by
   have hx:=List.getElem?_eq_getElem hi
   have hc:Fa (l.take (i+1))=Fa (l.take i)+(if C4 l[i]=true then 0 else 1):=by
    rw[<-E9 hx]
    unfold Fa
    rw[List.countP_append]
    cases hd:C4 l[i]<;>simp[List.countP_cons,hd]
   have hle:Fa (l.take i)<=i:=by
    have:=List.countP_le_length (p:=fun x=> !C4 x) (l:=l.take i)
    simp only[List.length_take]at this
    unfold Fa;omega
   unfold Kd
   simp (disch:=omega) only[Af,Ag,Aa,Dm hi,A9,B9 hx,Ae,w64]
   simp only[Bcc]
   rw[hc]
   split
   .rename_i h1
    have h2:C4 l[i]=false:=by simpa using h1
    rw[if_neg (by rw[h2];decide)]
    simp
   .rename_i h1
    have h2:C4 l[i]=true:=by simpa using h1
    rw[if_pos h2]
    simp)
  (by unfold Kd;simp only[Af,Aa,Dn,Ao,List.take_length])
 unfold D0 Vq Aok
 simp only[Ag,Aa]
 rw[show Ay Kd ((0:Int),l,(l.length:Int),(0:Int),())=_ from hl]
 rfl
theorem Bc2 {E:Type} {q:E->Bool}: ∀ {l:List E} {i k:Nat} {x y:E},l[i]? =some x->q y=q x->Ih (fun _ z=>q z) (l.set i y) k=Ih (fun _ z=>q z) l k
 |[],i,k,x,y,h,_=>by simp at h
 |a::r,0,k,x,y,h,e=>by
  simp at h;subst h
  simp only[List.set_cons_zero,Ih,e]
 |a::r,i+1,k,x,y,h,e=>by
  simp only[List.set_cons_succ,Ih]
  rw[Bc2 (l:=r) (i:=i) (by simpa using h) e]
theorem A31 {l:List Ak} {i:Nat} {x y:Ak} (hx:l[i]? =some x) (h:y.2.2.1=x.2.2.1) (s:List YB):Fr (l.set i y) s=Fr l s:=by
 unfold Fr Lw
 rw[Bc2 (q:=fun x=>Dz x.2.2.1 s) hx (by simp only[h])]
theorem A8g: ∀ {l:List Ak} {i:Nat} {x y:Ak},l[i]? =some x->(C4 y=true\/C4 y=C4 x)->Fa (l.set i y)<=Fa l
 |[],i,x,y,h,_=>by simp at h
 |a::r,0,x,y,h,e=>by
  simp at h;subst h
  simp only[List.set_cons_zero,Fa,List.countP_cons]
  rcases e with e|e
  .rw[e];simp
  .rw[e];exact Nat.le_refl _
 |a::r,i+1,x,y,h,e=>by
  have:=A8g (l:=r) (i:=i) (x:=x) (y:=y) (by simpa using h) e
  simp only[List.set_cons_succ,Fa,List.countP_cons]at this ⊢
  omega
theorem A8h {t:Cj} {i:Nat} {x y:Ak} (hl:t.2.1.length<=4294967296) (ht:Hm t=true) (hx:t.2.1[i]? =some x) (ho:Cs y=true) (hs:y.2.2.1=x.2.2.1) (hd:C4 y=true\/C4 y=C4 x):Hm (t.1,t.2.1.set i y,())=true:=by
 unfold Hm at ht ⊢
 simp only[Bool.and_eq_true]at ht ⊢
 refine⟨ht.1,by simpa using ht.2.1,?_,?_⟩
 .have h1:=ht.2.2.1
  rw[Kl t hl]at h1
  rw[Kl _ (by simpa using hl)]
  have h2:=A8g hx hd
  simp only[Bool.not_eq_true',decide_eq_false_iff_not]at h1 ⊢
  have h1': ¬((Fa t.2.1:Nat):Int)>t.1:=h1
  have h2':Fa (t.2.1.set i y)<=Fa t.2.1:=h2
  show ¬((Fa (t.2.1.set i y):Nat):Int)>t.1
  omega
 .have h1:=G8.1 ht.2.2.2
  refine G8.2 fun j z hz=>?_
  rw[List.getElem?_set]at hz
  unfold La
  by_cases hij:i=j
  .subst hij
   have hlt:i<t.2.1.length:=(List.getElem?_eq_some_iff.1 hx).1
   rw[if_pos rfl,if_pos hlt]at hz
   simp only[Option.some.injEq]at hz
   subst hz
   have h3:=h1 i x hx
   unfold La at h3
   rw[A31 hx hs,hs,ho]
   simp only[Bool.not_eq_false',Bool.and_eq_true]at h3 ⊢
   exact⟨trivial,h3.2⟩
  .rw[if_neg hij]at hz
   have h3:=h1 j z hz
   unfold La at h3
   rw[A31 hx hs]
   exact h3
theorem Bjs (t:Cj) (n:YI) (s x:Ak) (h:Co t+A5 s<=1073741824) (ht:Hm t=true) (h0:0<=n.1) (hx:t.2.1[n.1.toNat]? =some x) (ho:Hm (t.1,t.2.1.set n.1.toNat s,())=true):
  I3 t n s=some ((t.1,t.2.1.set n.1.toNat s,()),(true,())):=by
 have hl:t.2.1.length<=Co t:=by simp only[Co];omega
 have hlt:n.1.toNat<t.2.1.length:=(List.getElem?_eq_some_iff.1 hx).1
 have hn:Co (t.1,t.2.1.set n.1.toNat s,())<=Co t+A5 s:=by
  have:=Bcu (f:=A5) (l:=t.2.1) (i:=n.1.toNat) (x:=s)
  simp only[Co,List.length_set];omega
 unfold I3 Akd
 simp only[Af,Ag,Aa,Aj]
 rw[Aio t zq0,Amg t zq0,Mx s zq0]
 simp only[Ae,ht,Bool.not_true,Ao]
 rw[Bp zq0,Ao,Bp zq0,Ao]
 have hid:idx t.2.1 n.1=some x:=by unfold idx;rw[if_pos h0];exact hx
 rw[hid]
 simp only[Ae]
 rw[Amg _ zq0]
 simp only[Ae,ho,Bool.not_true,Ao]
theorem Boq (s:Ak) (h:A5 s<=4294967296) (ho:Cs s=true): ∃r,Bb5 s=some r/\Zx s=some r/\A5 r<=A5 s/\Cs r=true/\r.2.2.1=s.2.2.1/\C4 r=true:=by
 unfold Bb5 Bb4 Zx An1
 simp only[Af,Ag,Aa,Aj]
 rw[Sa s h,Aab s h,Ae,Ae,ho]
 simp only[Bool.not_true,Ao]
 simp only[A5]at h
 simp (disch:=first|omega|(dsimp only;omega)) only[Ch,Ae,List.length_nil,Nat.zero_add,List.nil_append,Al,Ba]
 refine⟨_,rfl,rfl,?_,?_,rfl,rfl⟩
 .simp only[A5,Bu,List.length_nil]
  omega
 .unfold Cs at ho ⊢
  simp only[Bool.and_eq_true]at ho ⊢
  refine⟨ho.1,ho.2.1,ho.2.2.1,ho.2.2.2.1,?_⟩
  rfl
theorem Akx {E:Type} {p:E->Bool} {l:List E} {i:Nat} {x:E} (hx:l[i]? =some x):(l.take (i+1)).filter p=(l.take i).filter p++(bif p x then [x]else []):=by
 rw[<-E9 hx,List.filter_append]
 cases h:p x<;>simp[List.filter_cons,h]
theorem Avg {E:Type} {p:E->Bool} {l:List E} {i:Nat}:((l.take i).filter p).length<=i:=by
 have:=List.length_filter_le p (l.take i)
 simp only[List.length_take]at this;omega
theorem Aky {E:Type} {f:E->Nat} {p:E->Bool}: ∀ {l:List E},Bu f (l.filter p)<=Bu f l
 |[]=>by simp[Bu]
 |a::r=>by
  have:=Aky (f:=f) (p:=p) (l:=r)
  simp only[List.filter_cons]
  split<;>simp only[Bu]<;>omega
theorem Bqs (n:Nat):Nat.beq n n=true:=Nat.beq_refl n
theorem Br1 {i:Nat}:Nat.ble (Int.toNat (i:Int)+1) (Int.toNat ((i:Int)+1))=true:=by
 rw[show Int.toNat (i:Int)=i by omega,show Int.toNat ((i:Int)+1)=i+1 by omega]
 exact Nat.ble_eq_true_of_le (Nat.le_refl _)
def My (n:Int) (x:A8):Bool:=decide (x.2.2.2.1≥n)
def Em (p:Bn) (n:Int):Bn:=(p.1,p.2.1,p.2.2.1.filter (My n),())
theorem Vx (p:Bn) (n:YI) (h:Bd p<=4294967296):Rz p n=some (Em p n.1):=by
 have h':=h
 obtain⟨a,b,l,⟨⟩⟩:=p
 simp only[Bd]at h'
 have hl:=Ct (B:=Ft) l.length (fun i=>(n.1,l,(l.length:Int),(i:Int),(0:Int),(0:Int),([]:List A8),a,b,(l.take i).filter (My n.1),())) ((0:Int),(0:Int),([]:List A8),a,b,l.filter (My n.1),())
  (fun i hi=>by
   have hx:=List.getElem?_eq_getElem hi
   have hle:=Avg (p:=My n.1) (l:=l) (i:=i)
   have hs:=Akx (p:=My n.1) hx
   unfold Ft
   simp only[Af,Ag,Aa,Aj,Dm hi,A9,B9 hx,Ae,Bqs,Ba]
   rw[w64 zq0,Br1]
   simp only[Ba]
   rw[hs]
   have hp:My n.1 l[i]=decide (l[i].2.2.2.1≥n.1):=rfl
   rw[hp]
   cases decide (l[i].2.2.2.1≥n.1)with
   |false=>simp[Ao]
   |true=>
    simp only[A9,cond_true]
    rw[Al zq1,Ba]
    rfl)
  (by unfold Ft;simp only[Af,Aa,Dn,Ao,List.take_length])
 unfold Rz Mo
 simp only[Ag,Aa]
 rw[Nj _ h]
 simp only[Ae]
 rw[show Ay Ft (n.1,l,(l.length:Int),(0:Int),(0:Int),(0:Int),([]:List A8),a,b,([]:List A8),())=_ from hl]
 rfl
theorem Ay3 (p:Bn) (n:Int):Bd (Em p n)<=Bd p:=by
 have h1:=List.length_filter_le (My n) p.2.2.1
 have h2:=Aky (f:=Ga) (p:=My n) (l:=p.2.2.1)
 simp only[Bd,Em];omega
def Se (p:Bn) (n:Int):Bn:=bif D7 p && inR n 0 1000000 then Em p n else p
theorem Bjt (p:Bn) (n:YI) (h:Bd p<=4294967296):Agm p n=some (Se p n.1):=by
 have h':=h
 have hl0:p.2.2.1.length<=Bd p:=by simp only[Bd];omega
 unfold Agm Afa Se
 simp only[Af,Ag,Aa]
 rw[Aim p zq0,Cq,Wd p h]
 simp only[Ae]
 obtain⟨a,b,l,⟨⟩⟩:=p
 simp only[Bd]at h'
 have hl:=Ct (B:=K0) l.length (fun i=>(n.1,(i:Int),a,b,l,(0:Int),(0:Int),([]:List A8),a,b,(l.take i).filter (My n.1),())) ((0:Int),(0:Int),([]:List A8),a,b,l.filter (My n.1),())
  (fun i hi=>by
   have hx:=List.getElem?_eq_getElem hi
   have hle:=Avg (p:=My n.1) (l:=l) (i:=i)
   have hs:=Akx (p:=My n.1) hx
   have hn:=Ob (f:=Ga) hx
   unfold K0
   simp only[Af,Ag,Aa,Aj,Dm hi,A9,B9 hx,Ae]
   rw[w64 zq0,hs,Ain _ zq0]
   simp only[Ae]
   have hp:My n.1 l[i]=decide (l[i].2.2.2.1≥n.1):=rfl
   rw[hp]
   cases decide (l[i].2.2.2.1≥n.1)with
   |false=>simp[Ao]
   |true=>
    simp only[A9,cond_true]
    rw[Al zq1,Ba]
    rfl)
  (by unfold K0;simp only[Af,Aa,Dn,Ao,List.take_length])
 rw[show Ay K0 (n.1,(0:Int),a,b,l,(0:Int),(0:Int),([]:List A8),a,b,([]:List A8),())=_ from hl]
 cases D7 (a,b,l,())<;>cases inR n.1 0 1000000<;>rfl
theorem Avh (s:Ak):Bd (Bm s)<=A5 s:=by simp only[Bd,Bm,A5];omega
end
end Go.Proofs.YtnbbbaplphcebaaGreat
