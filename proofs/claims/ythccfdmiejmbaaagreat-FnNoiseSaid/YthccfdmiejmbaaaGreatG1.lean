/-
  That the program and the reference answer alike, in plain terms, and that the laws answer true.
-/
import Derived.Test.YthccfdmiejmbaaaGreatH
namespace Go.Proofs.YthccfdmiejmbaaaGreat
open Go.RowKit
set_option linter.unusedVariables false
set_option linter.unusedSimpArgs false
set_option maxHeartbeats 4000000
noncomputable section
def inR (n lo hi:Int):Bool:=decide (lo<=n) && decide (n<=hi)
theorem Cm (n lo hi:YI):Bl n lo hi=some (inR n.1 lo.1 hi.1,()):=by
 unfold Bl Arw inR
 simp only[Af,Aa,Bhg]
 split<;>rename_i h<;>simp at h<;>simp[h]
 all_goals omega
theorem Cy (n lo hi:YI):Bs n lo hi=some (inR n.1 lo.1 hi.1,()):=by
 unfold Bs A3w inR
 simp only[Af,Aa,Bhg]
 split<;>rename_i h<;>simp at h<;>simp[h]
 all_goals omega
def Cv (a b:List YB):Bool:=decide (Ht a=Ht b)
theorem S1 (a b:YBs):Mz a b=some (Cv a.1 b.1,()):=rfl
theorem Gk (a b:YBs):B7 a b=some (Cv a.1 b.1,()):=rfl
theorem Bdh (n:YI): ∃r,A8p n=some r/\Z1 n=some r/\Cf r=0:=by
 unfold A8p A8o Z1 Aql
 simp only[Ah,Af,Aa,Cm,Cy,Ac]
 cases inR n.1 1 6
 .exact⟨_,rfl,rfl,rfl⟩
 .exact⟨_,rfl,rfl,rfl⟩
theorem Bmb (t:Ck) (h:t.2.1.length<=4294967296): ∃r,Wl t=some r/\Aio t=some r:=by
 obtain⟨cap,l,_⟩:=t
 simp only at h
 obtain⟨o1,o2,h1,h2,hq⟩:=Wo (B1:=Ko) (B2:=Xt)
  (fun i d1 d2=>∃n:Int,0<=n/\n<=i/\d1=(n,l,(l.length:Int),(i:Int),())/\d2=(n,(i:Int),cap,l,())) (fun o1 o2=>o1=o2) l.length
  (by
   rintro i d1 d2 hi ⟨n,h0,h1,rfl,rfl⟩
   have hx:=List.getElem?_eq_getElem hi
   left
   unfold Ko Xt
   simp (disch:=omega) only[Af,Ah,Aa,Dh hi,A6,B8 hx,Ac,w64]
   simp only[Bhg]
   split
   .exact⟨_,_,rfl,rfl,n+1,by omega,by omega,rfl,rfl⟩
   .exact⟨_,_,rfl,rfl,n,by omega,by omega,rfl,rfl⟩)
  (by
   rintro d1 d2 ⟨n,h0,h1,rfl,rfl⟩
   unfold Ko Xt
   simp only[Af,Ah,Aa,Di,Ao]
   exact⟨_,_,rfl,rfl,rfl⟩)
  (d1:=((0:Int),l,(l.length:Int),(0:Int),())) (d2:=((0:Int),(0:Int),cap,l,())) ⟨0,by omega,by omega,rfl,rfl⟩
 subst hq
 refine⟨(o1.1,()),?_,?_⟩
 .unfold Wl Ar0
  simp only[Ah,Aa,h1,Ac]
 .unfold Aio A36
  simp only[Ah,Aa,h2,Ac]
theorem Bmc (t:Ck) (a:A8) (h:t.2.1.length<=4294967296): ∃r,Abq t a=some r/\Ai0 t a=some r:=by
 obtain⟨cap,l,_⟩:=t
 obtain⟨p,q,_⟩:=a
 simp only at h
 obtain⟨o1,o2,h1,h2,hq⟩:=Wo (B1:=Zj) (B2:=Zv)
  (fun i d1 d2=>d1=(l,(l.length:Int),(i:Int),p,q,())/\d2=((i:Int),cap,l,p,q,())) (fun o1 o2=>o1=o2) l.length
  (by
   rintro i d1 d2 hi ⟨rfl,rfl⟩
   have hx:=List.getElem?_eq_getElem hi
   unfold Zj Zv
   simp (disch:=omega) only[Af,Ah,Aa,Dh hi,A6,B8 hx,Ac,w64]
   simp only[Bhg]
   split
   .split
    .exact .inr ⟨_,_,rfl,rfl,rfl⟩
    .exact .inl ⟨_,_,rfl,rfl,rfl,rfl⟩
   .exact .inl ⟨_,_,rfl,rfl,rfl,rfl⟩)
  (by
   rintro d1 d2 ⟨rfl,rfl⟩
   unfold Zj Zv
   simp only[Af,Ah,Aa,Di,Ao]
   exact⟨_,_,rfl,rfl,rfl⟩)
  (d1:=(l,(l.length:Int),(0:Int),p,q,())) (d2:=((0:Int),cap,l,p,q,())) ⟨rfl,rfl⟩
 subst hq
 refine⟨(match o1 with| .inl a=>a.1| .inr _=>false,()),?_,?_⟩
 .unfold Abq A4l
  simp only[Ah,Aa,h1,Ac,Ey]
  cases o1<;>rfl
 .unfold Ai0 A41
  simp only[Ah,Aa,h2,Ac,Ey]
  cases o1<;>rfl
theorem S2 (b c:Bool):br b (some (c,())) (some (false,()))=some (b && c,()):=by cases b<;>rfl
theorem Bf0 (b c:Bool):br b (some (true,())) (some (c,()))=some (b || c,()):=by cases b<;>rfl
theorem Agd (b c d:Bool):br b (some (c,())) (some (d,()))=some (bif b then c else d,()):=by cases b<;>rfl
def Cq (a:A8):Bool:=inR a.1 0 4294967295 && inR a.2.1 0 65535
theorem Ik (a:A8):Ha a=some (Cq a,()):=by
 unfold Ha Ar7 Cq
 simp only[Af,Ah,Aa,Cm,Ac,S2]
theorem Il (a:A8):Gr a=some (Cq a,()):=by
 unfold Gr Aqq Cq
 simp only[Af,Ah,Aa,Cy,Ac,S2]
theorem Hz (a:YBs):D5 a=some ((a.1.length:Int)==12,()):=rfl
theorem Abx (a:YI):Pq a=some (a.1==0 || a.1==1,()):=by
 unfold Pq Ar3
 simp only[Af,Aa,Bf0]
theorem Ago (n:Int):(n==0 || n==1)=inR n 0 1:=by
 apply Kv
 simp[inR]
 omega
def Afd (w:Dg) (n:Int):Bool:=
 match idx w.2.1 ((n%1024)/32)with
 |some e=>IntKind.i64.wrap ((BitVec.ofInt (IntKind.i64.bits) (Int.fdiv e.1 (2^(min ((n%32)).toNat IntKind.i64.bits))) &&& BitVec.ofInt (IntKind.i64.bits) (1:Int)).toNat:Nat)==1
 |none=>false
theorem A5g (w:Dg) (n:YI) (hl:w.2.1.length=32) (h0:0<=n.1):Z8 w n=some (Afd w n.1,()):=by
 obtain⟨e,he,_⟩:=Wp (l:=w.2.1) (n:=(n.1%1024)/32) zq0 zq0
 unfold Z8 Ar5 Afd
 simp only[Ak,Ah,Aa,he,Ac]
 rw[Ai h0,Ai zq0,Ai zq0]
 rfl
theorem Bbb (w:Dg) (n:YI) (hl:w.2.1.length=32) (h0:0<=n.1):Ady w n=some (Afd w n.1,()):=by
 obtain⟨e,he,_⟩:=Wp (l:=w.2.1) (n:=(n.1%1024)/32) zq0 zq0
 unfold Ady Aw4 Afd
 simp only[Ak,Ah,Aa,he,Ac]
 rw[Ai h0,Ai zq0,Ai zq0,show(n.1%1024)%32=n.1%32 by omega]
 rfl
def Gw (l:List YI):Bool:=Ee (fun _ e=> !inR e.1 0 4294967295) l
theorem At8 (l:List YI) (n:Int) (hl:l.length<=4294967296):Ss (l,()) (n,())=some (Gw l && ((l.length:Int)==n),()):=by
 have h:=Gb (B:=Od) l (fun i=>(l,n,l,(l.length:Int),(i:Int),())) (fun _ e=> !inR e.1 0 4294967295) (false,()) (l,n,())
  (fun i x hi hx=>by
   unfold Od
   simp (disch:=omega) only[Af,Ah,Aa,Dh hi,A6,B8 hx,Ac,Cm,w64]
   rfl)
  (by unfold Od;simp only[Af,Ah,Aa,Di,Ao])
 unfold Ss Aho
 simp only[Ah,Ey,Aa]
 rw[show((0:Int))=((0:Nat):Int)from rfl,h]
 unfold Gw
 cases Ee (fun _ (e:YI)=> !inR e.1 0 4294967295) l<;>rfl
def Agp (w:Dg):Bool:=Ee (fun i (_:Unit)=>Afd w (w.1+1+(i:Nat))) (List.replicate (1024-(w.1+1)).toNat ())
def N3 (w:Dg):Bool:=inR w.1 (-1) 281474976710655 && (Gw w.2.1 && ((w.2.1.length:Int)==32) && (Agp w && (w.1== -1 || Afd w w.1)))
theorem Bx {n lo hi:Int}:inR n lo hi=true↔lo<=n/\n<=hi:=by simp[inR]
theorem Bqv (t:Int) (l:List YI) (hl:l.length=32) (h0: -1<=t) (h1:t<=281474976710655):A0 Q3 (t+1,t,l,())=some (bif Agp (t,l,())then .inr (t,l,())else .inl (false,())):=by
 have h:=A8q (B:=Q3) (1024-(t+1)).toNat (fun i=>(t+1+(i:Nat),t,l,())) (fun i=>Afd (t,l,()) (t+1+(i:Nat))) (false,()) (t,l,())
  (fun i hi=>by
   unfold Q3
   simp (disch:=first|exact hl|(dsimp only;omega)|omega) only[Af,Ah,Aa,A5g,Ac,w64]
   rw[Ai zq0]
   simp only[A6]
   rw[show t+1+((i+1:Nat):Int)=t+1+(i:Int)+1 by omega])
  (by
   unfold Q3
   simp only[Af,Aa]
   rw[C4 zq1])
 rw[show t+1=t+1+((0:Nat):Int) by simp,h]
 rfl
theorem Bmd (w:Dg) (hl:w.2.1.length<=4294967296):Akl w=some (N3 w,()):=by
 obtain⟨t,l,_⟩:=w
 simp only at hl
 unfold Akl Ayd N3
 simp (disch:=omega) only[Af,Ah,Aa,Ey,Cm,Ac,At8]
 cases h1:inR t (-1) 281474976710655 with
 |false=>rfl
 |true=>
  cases h2:(Gw l && ((l.length:Int)==32))with
  |false=>rfl
  |true=>
   have h1:=Bx.1 h1
   have h3:l.length=32:=by simp at h2;omega
   simp only[Bool.not_true,Ao]
   rw[w64 zq0,Bqv t l h3 zq0 zq0]
   cases h4:Agp (t,l,())with
   |false=>rfl
   |true=>
    simp only[Ac,cond_true,A5h,Bool.true_and]
    by_cases h5:t= -1
    .subst h5;rfl
    .rw[A5g _ _ h3 zq2,Ac,Bf0]
theorem Bqw (t:Int) (l:List YI) (hl:l.length=32) (h0: -1<=t) (h1:t<=281474976710655):A0 Jj (t+1,t,l,())=some (bif Agp (t,l,())then .inr ()else .inl (false,())):=by
 have h:=A8q (B:=Jj) (1024-(t+1)).toNat (fun i=>(t+1+(i:Nat),t,l,())) (fun i=>Afd (t,l,()) (t+1+(i:Nat))) (false,()) ()
  (fun i hi=>by
   unfold Jj
   simp (disch:=first|exact hl|(dsimp only;omega)|omega) only[Af,Ah,Aa,Bbb,Ac,w64]
   rw[Ai zq0]
   simp only[A6]
   rw[show t+1+((i+1:Nat):Int)=t+1+(i:Int)+1 by omega])
  (by
   unfold Jj
   simp only[Af,Aa]
   rw[C4 zq1])
 rw[show t+1=t+1+((0:Nat):Int) by simp,h]
 rfl
theorem Bn5 (t:Int) (l:List YI) (hl:l.length=32):A0 Np (0,t,l,())=some (bif Gw l then .inr (t,l,())else .inl (false,())):=by
 have h:=Gb (B:=Np) l (fun i=>((i:Int),t,l,())) (fun _ e=> !inR e.1 0 4294967295) (false,()) (t,l,())
  (fun i x hi hx=>by
   unfold Np
   rw[hl]at hi
   simp (disch:=omega) only[Af,Ah,Aa,B8 hx,Ac,Cy,w64]
   rw[Ai zq0]
   rfl)
  (by unfold Np;simp only[Af,Ah,Aa,hl];rfl)
 rw[show((0:Int))=((0:Nat):Int)from rfl,h]
 rfl
theorem Bme (w:Dg):Akg w=some (N3 w,()):=by
 obtain⟨t,l,_⟩:=w
 unfold Akg Ajv N3
 simp only[Af,Ah,Aa,Ey,Cy,Ac]
 by_cases h3:l.length=32
 .rw[C4 (by simp[h3])]
  cases h1:inR t (-1) 281474976710655 with
  |false=>rfl
  |true=>
   have h1:=Bx.1 h1
   simp only[Bool.not_true,Ao]
   rw[Bn5 t l h3]
   cases h2:Gw l with
   |false=>rfl
   |true=>
    simp only[Ac,cond_true,A5h,Bool.true_and,h3]
    rw[w64 zq0,Bqw t l h3 zq0 zq0]
    by_cases h5:t= -1
    .subst h5
     rw[C4 zq3]
     cases Agp (-1,l,())<;>rfl
    .rw[Dv zq1,Bbb _ _ h3 zq2,Ac]
     have h6:(t== -1)=false:=by simpa using h5
     rw[h6]
     cases Afd (t,l,()) t<;>cases Agp (t,l,())<;>rfl
 .rw[Dv (by simpa using (by omega: ¬((l.length:Int)=32)))]
  have:((l.length:Int)==32)=false:=by simpa using (by omega: ¬((l.length:Int)=32))
  rw[this]
  simp
def Hu (e:YEp):Bool:=inR e.1 0 4294967295 && (((e.2.1.length:Int)==32) && (inR e.2.2.1 0 281474976710656 && N3 (e.2.2.2.1,e.2.2.2.2.1,())))
theorem A8r (e:YEp) (h:e.2.2.2.2.1.length<=4294967296):Abp e=some (Hu e,()):=by
 unfold Abp A4f Hu
 simp (disch:=first|exact h) only[Af,Ah,Aa,Cm,Ac,S2,Bmd]
theorem Bhh (e:YEp):Wi e=some (Hu e,()):=by
 unfold Wi A37 Hu
 simp only[Af,Ah,Aa,Cy,Ac,S2,Bme]
def ep0 (e:YEp):Bool:=(e.1==0) && (((e.2.1.length:Int)==0) && ((e.2.2.1==0) && ((e.2.2.2.1==0) && ((e.2.2.2.2.1.length:Int)==0))))
theorem Bdi (e:YEp):Vb e=some (ep0 e,()):=by
 unfold Vb Alk ep0
 simp only[Af,Aa,S2]
theorem Bdj (l:List YB):Cv l []=((l.length:Int)==0):=by
 apply Kv
 unfold Cv Ht
 cases l<;>simp
 omega
theorem Bbc (l:List YI):Aiu (l,()) ([],())=some ((l.length:Int)==0,()):=by
 unfold Aiu Ahn
 simp only[Af,Ah,Aa,Ey]
 cases l with
 |nil=>
  rw[C4 zq3]
  rw[Eo]
  rfl
 |cons x r=>
  rw[Dv zq1]
  simp;omega
theorem Bdk (e:YEp):Z7 e ((0:Int),[],(0:Int),(0:Int),[],())=some (ep0 e,()):=by
 unfold Z7 Ar2 ep0
 simp only[Af,Ah,Aa,Gk,Bdj,Bbc,Ac,S2]
def A8s (c:Au):Bool:=(c.1==0) && (((c.2.1.length:Int)==0) && (ep0 (c.2.2.1,c.2.2.2.1,c.2.2.2.2.1,c.2.2.2.2.2.1,c.2.2.2.2.2.2.1,()) && (ep0 (c.2.2.2.2.2.2.2.1,c.2.2.2.2.2.2.2.2.1,c.2.2.2.2.2.2.2.2.2.1,c.2.2.2.2.2.2.2.2.2.2.1,c.2.2.2.2.2.2.2.2.2.2.2.1,()) &&
 (!c.2.2.2.2.2.2.2.2.2.2.2.2.1 && ((c.2.2.2.2.2.2.2.2.2.2.2.2.2.1==0) && ((c.2.2.2.2.2.2.2.2.2.2.2.2.2.2.1.length:Int)==0))))))
theorem Bhi (c:Au):Abo c=some (A8s c,()):=by
 unfold Abo Abi A8s
 simp only[Af,Ah,Aa,Bdk,Ac,S2]
theorem Blb (c:Au):Ae8 c=some (A8s c,()):=by
 unfold Ae8 Aef A8s
 simp only[Af,Ah,Aa,Bdi,Ac,S2]
abbrev N0 (c:Au):YEp:=(c.2.2.1,c.2.2.2.1,c.2.2.2.2.1,c.2.2.2.2.2.1,c.2.2.2.2.2.2.1,())
abbrev Aah (c:Au):YEp:=(c.2.2.2.2.2.2.2.1,c.2.2.2.2.2.2.2.2.1,c.2.2.2.2.2.2.2.2.2.1,c.2.2.2.2.2.2.2.2.2.2.1,c.2.2.2.2.2.2.2.2.2.2.2.1,())
abbrev Aaj (c:Au):Bool:=c.2.2.2.2.2.2.2.2.2.2.2.2.1
abbrev Aby (c:Au):Int:=c.2.2.2.2.2.2.2.2.2.2.2.2.2.1
abbrev Na (c:Au):List YB:=c.2.2.2.2.2.2.2.2.2.2.2.2.2.2.1
def Ps (c:Au):Bool:=bif !Aaj c then ep0 (Aah c) && (Aby c==0)else
 !!Hu (Aah c) && (!((Aah c).1 != IntKind.i64.wrap ((N0 c).1-1)) && (inR (Aby c) 0 1000005 || ((Aby c== -1) && (c.1==1))))
def Cz (c:Au):Bool:= !!(c.1==0 || c.1==1) && (!!((c.2.1.length:Int)==12) && (!!Hu (N0 c) && (!!Ps c && (((Na c).length:Int)==0 || ((c.1==0) && ((((Na c).length:Int)==32) && decide ((N0 c).1<4294967295)))))))
theorem Bve (c:Au) (h:(Aah c).2.2.2.2.1.length<=4294967296):Azi c=some (Ps c,()):=by
 unfold Azi Aye Ps
 simp (disch:=first|exact h) only[Af,Ah,Aa,Bdk,Ac,A8r,Cm,Agd,Bool.cond_false_right,Bool.cond_true_left,Bool.cond_false_left]
theorem Wq (c:Au) (h1:(N0 c).2.2.2.2.1.length<=4294967296) (h2:(Aah c).2.2.2.2.1.length<=4294967296):Kt c=some (Cz c,()):=by
 unfold Kt Ar6 Cz
 simp (disch:=first|exact h1|exact h2) only[Af,Ah,Aa,Abx,Hz,Ac,A8r,Bve,Agd,Bool.cond_false_right,Bool.cond_true_left,Bool.cond_false_left]
theorem S3 (c:Au):Kr c=some (Cz c,()):=by
 obtain⟨role,sn,n1,k1,q1,t1,b1,n2,k2,q2,t2,b2,has,til,next,_⟩:=c
 unfold Kr Aqp Cz Ps
 simp only[Af,Ah,Aa,Cy,Ac,Bhh,Bdi,Agd,Bool.cond_false_right,Bool.cond_true_left,Bool.cond_false_left,Ago,N0,Aah,Aaj,Aby,Na]
 refine congrArg (fun b=>some (b,())) ?_
 cases h1:inR role 0 1 with
 |false=>rfl
 |true=>
  have h1:=Bx.1 h1
  cases has with
  |false=>simp[bne,Bool.and_assoc]
  |true=>
   rcases(show role=0\/role=1 by omega)with rfl|rfl
   .simp[bne,Bool.and_assoc]
   .have e2:inR til (-1) 1000005=(inR til 0 1000005 || til== -1):=by
     apply Kv;simp[inR];omega
    simp[bne,Bool.and_assoc,e2]
def eqA (a b c d:Int):Bool:=and (a==c) (and (b==d) true)
def Ue (at1 at2:Int) (l:List Bb) (i:Nat) (x:Bb):Bool:=
 !(Cq (x.1,x.2.1,()) && (!eqA x.1 x.2.1 at1 at2 && (((x.2.2.1.length:Int)==12) && (inR x.2.2.2.1 0 1000006 && Ee (fun _ y=>eqA y.1 y.2.1 x.1 x.2.1) (l.take i)))))
def E8 (p:Bn):Bool:=Cq (p.1,p.2.1,()) && (!decide ((p.2.2.1.length:Int)>3) && Ee (Ue p.1 p.2.1 p.2.2.1) p.2.2.1)
theorem Bqx (l0:List Bb) (n:Int) (i:Nat) (m:List Bb) (hm:m.length<=4294967296) (a b:Int) (l:List Bb) (x:Bb):
  A0 Kc (l0,n,(i:Int),m,(m.length:Int),(0:Int),a,b,l,x.1,x.2.1,x.2.2.1,x.2.2.2.1,())=some (bif Ee (fun _ y=>eqA y.1 y.2.1 x.1 x.2.1) m then .inr (l0,n,(i:Int),a,b,l,())else .inl (false,())):=by
 have h:=Gb (B:=Kc) m (fun j=>(l0,n,(i:Int),m,(m.length:Int),(j:Int),a,b,l,x.1,x.2.1,x.2.2.1,x.2.2.2.1,())) (fun _ y=>eqA y.1 y.2.1 x.1 x.2.1) (false,()) (l0,n,(i:Int),a,b,l,())
  (fun j y hj hy=>by
   unfold Kc
   simp (disch:=omega) only[Af,Ah,Aa,Dh hj,A6,B8 hy,Ac,w64]
   rfl)
  (by unfold Kc;simp only[Af,Aa,Di,Ao])
 rw[show((0:Int))=((0:Nat):Int)from rfl,h]
theorem Bqy (i:Nat) (a b:Int) (l:List Bb) (hi:i<=l.length) (hl:l.length<=4294967296) (x:Bb):
  A0 I1 ((i:Int),(0:Int),a,b,l,x.1,x.2.1,x.2.2.1,x.2.2.2.1,())=some (bif Ee (fun _ y=>eqA y.1 y.2.1 x.1 x.2.1) (l.take i)then .inr ((i:Int),a,b,l,())else .inl (false,())):=by
 have hlen:(l.take i).length=i:=by simp;omega
 have h:=Gb (B:=I1) (l.take i) (fun j=>((i:Int),(j:Int),a,b,l,x.1,x.2.1,x.2.2.1,x.2.2.2.1,())) (fun _ y=>eqA y.1 y.2.1 x.1 x.2.1) (false,()) ((i:Int),a,b,l,())
  (fun j y hj hy=>by
   have hy2:l[j]? =some y:=by rw[List.getElem?_take]at hy;split at hy;exact hy;cases hy
   unfold I1
   simp (disch:=omega) only[Af,Ah,Aa,Dh (show j<i by omega),A6,B8 hy2,Ac,w64]
   rfl)
  (by unfold I1;rw[hlen];simp only[Af,Aa,Di,Ao])
 rw[show((0:Int))=((0:Nat):Int)from rfl,h]
theorem Xa (p:Bn) (hl:p.2.2.1.length<=4294967296):Vd p=some (E8 p,()):=by
 obtain⟨a,b,l,_⟩:=p
 simp only at hl
 have h:=Gb (B:=Mj) l (fun i=>(l,(l.length:Int),(i:Int),a,b,l,())) (Ue a b l) (false,()) ()
  (fun i x hi hx=>by
   have hlen:(l.take i).length<=4294967296:=by simp;omega
   unfold Mj
   simp only[Af,Ah,Aa,Ak,Ey,Dh hi,A6,B8 hx,Ac,Ik,Hz,Cm,Int.toNat_natCast,Int.toNat_zero,List.drop_zero]
   rw[Bqx l _ i _ hlen]
   unfold Ue
   rw[Ai zq0,Ai zq0]
   simp only[Ay,eqA,Ac]
   cases Cq (x.1,x.2.1,())<;>cases (and (x.1==a) (and (x.2.1==b) true))<;>cases ((x.2.2.1.length:Int)==12)<;>cases inR x.2.2.2.1 0 1000006<;>cases Ee (fun _ (y:Bb)=>and (y.1==x.1) (and (y.2.1==x.2.1) true)) (l.take i)<;>first|rfl|(simp only[cond_true,A5h,br,Bool.not_true];rw[w64 zq0];rfl))
  (by unfold Mj;simp only[Af,Aa,Di,Ao])
 unfold Vd Acq E8
 simp only[Af,Ah,Aa,Ey,Ik,Ac]
 rw[show((0:Int))=((0:Nat):Int)from rfl,h]
 cases Cq (a,b,())<;>cases decide ((l.length:Int)>3)<;>cases Ee (Ue a b l) l<;>rfl
theorem Akt (p:Bn) (hl:p.2.2.1.length<=4294967296):Q6 p=some (E8 p,()):=by
 obtain⟨a,b,l,_⟩:=p
 simp only at hl
 have h:=Gb (B:=Me) l (fun i=>((i:Int),a,b,l,())) (Ue a b l) (false,()) ()
  (fun i x hi hx=>by
   unfold Me
   simp only[Af,Ah,Aa,Ak,Ey,Dh hi,A6,B8 hx,Ac,Il,Cy]
   rw[Bqy i a b l zq0 hl]
   unfold Ue
   simp only[Ac,eqA,bne]
   cases Cq (x.1,x.2.1,())<;>cases (and (x.1==a) (and (x.2.1==b) true))<;>cases ((x.2.2.1.length:Int)==12)<;>cases inR x.2.2.2.1 0 1000006<;>cases Ee (fun _ (y:Bb)=>and (y.1==x.1) (and (y.2.1==x.2.1) true)) (l.take i)<;>first|rfl|(simp only[cond_true,A5h,br,Bool.not_true];rw[w64 zq0];rfl))
  (by unfold Me;simp only[Af,Aa,Di,Ao])
 unfold Q6 Aci E8
 simp only[Af,Ah,Aa,Ey,Il,Ac]
 rw[show((0:Int))=((0:Nat):Int)from rfl,h]
 cases Cq (a,b,())<;>cases decide ((l.length:Int)>3)<;>cases Ee (Ue a b l) l<;>rfl
abbrev Cj (s:Al):Au:=(s.2.2.2.1,s.2.2.2.2.1,s.2.2.2.2.2.1,s.2.2.2.2.2.2.1,s.2.2.2.2.2.2.2.1,s.2.2.2.2.2.2.2.2.1,s.2.2.2.2.2.2.2.2.2.1,s.2.2.2.2.2.2.2.2.2.2.1,s.2.2.2.2.2.2.2.2.2.2.2.1,s.2.2.2.2.2.2.2.2.2.2.2.2.1,s.2.2.2.2.2.2.2.2.2.2.2.2.2.1,s.2.2.2.2.2.2.2.2.2.2.2.2.2.2.1,s.2.2.2.2.2.2.2.2.2.2.2.2.2.2.2.1,s.2.2.2.2.2.2.2.2.2.2.2.2.2.2.2.2.1,s.2.2.2.2.2.2.2.2.2.2.2.2.2.2.2.2.2.1,())
abbrev Bm (s:Al):Bn:=(s.2.2.2.2.2.2.2.2.2.2.2.2.2.2.2.2.2.2.1,s.2.2.2.2.2.2.2.2.2.2.2.2.2.2.2.2.2.2.2.1,s.2.2.2.2.2.2.2.2.2.2.2.2.2.2.2.2.2.2.2.2.1,())
abbrev Azq (s:Al):Int:=s.2.2.2.2.2.2.2.2.2.2.2.2.2.2.2.2.2.2.2.2.2.1
abbrev Aak (s:Al):Int:=s.2.2.2.2.2.2.2.2.2.2.2.2.2.2.2.2.2.2.2.2.2.2.1
abbrev Dd (s:Al):Bool:=s.2.2.2.2.2.2.2.2.2.2.2.2.2.2.2.2.2.2.2.2.2.2.2.1
def Dk (s:Al):Bool:=
 inR s.1 1 9 && (((s.2.1.length:Int)==12) && (((s.2.2.1.length:Int)==12) && (inR (Azq s) 0 1000000 &&
  (bif Dd s then A8s (Cj s) && (eqA (Bm s).1 (Bm s).2.1 0 0 && ((((Bm s).2.2.1.length:Int)==0) && (Aak s==0)))
  else Cz (Cj s) && ((s.2.2.2.1==1) && (Cv s.2.2.2.2.1 s.2.2.1 && (E8 (Bm s) && inR (Aak s) 0 1000000)))))))
theorem Wr (s:Al) (h:A5 s<=4294967296):T9 s=some (Dk s,()):=by
 have hn:A5 s=_:=rfl
 unfold T9 Ar8 Dk
 simp only[A5]at h
 rw[Wq _ zq2 zq2,Xa _ zq2]
 simp only[Af,Ah,Aa,Cm,Hz,Bhi,Gk,Ac,Agd,Bool.cond_false_right,Bool.cond_true_left,Bool.cond_false_left,eqA,Bool.not_not]
theorem Bvf:Kd ((-1:Int),())=some ((0:Int),(0:Int),()):=by
 unfold Kd Aqn
 simp only[Af,Ah,Aa,Cy,Ac]
 rfl
theorem Ai5 (s:Al) (h:A5 s<=4294967296):Po s=some (Dk s,()):=by
 unfold Po Aqr Dk
 simp only[A5]at h
 rw[Akt _ zq2]
 simp only[Af,Ah,Aa,Cy,Blb,S1,S3,Bvf,Ac,Agd,Bool.cond_false_right,Bool.cond_true_left,Bool.cond_false_left,eqA,Bool.not_not]
 refine congrArg (fun b=>some (b,())) ?_
 cases hd:Dd s with
 |true=>
  cases hl:Aak s==0 with
  |false=>simp[hd,hl,bne]
  |true=>
   have e:inR (Aak s) 0 1000000=true:=by simp at hl;simp[inR,hl]
   simp[hd,hl,bne,e]
 |false=>
  cases hl:inR (Aak s) 0 1000000 with
  |false=>simp[hd,hl,bne]
  |true=>simp[hd,hl,bne]
def Mb {E:Type} (q:E->Bool) (l:List E):Int:=(Im (fun _ x=>q x) l 0).elim (-1) fun i=>(i:Int)
theorem Agq {E:Type} {q:E->Bool} {l:List E} {i:Nat} {x:E} (hx:l[i]? =some x) (hq:q x=true):0<=Mb q l/\Mb q l<=i:=by
 unfold Mb
 cases h:Im (fun _ x=>q x) l 0 with
 |none=>
  have:=Ad1.1 h i x hx
  rw[hq]at this;cases this
 |some k=>
  obtain⟨j,y,rfl,h2,h3,h4⟩:=S4 h
  simp only[Option.elim,Nat.zero_add]
  rcases Nat.lt_or_ge i j with hh|hh
  .have:=h4 i x hh hx
   try simp only at this
   rw[hq]at this;cases this
  .omega
theorem A08 {E:Type} {q:E->Bool} {l:List E} {i:Nat} {x:E} (hx:l[i]? =some x) (hq:q x=true):decide (Mb q l<i)= !Ee (fun _ y=>q y) (l.take i):=by
 apply Kv
 have hb:=Agq hx hq
 rw[Bool.not_eq_true',decide_eq_true_iff]
 constructor
 .intro hlt
  cases hn:Ee (fun _ y=>q y) (l.take i)with
  |false=>rfl
  |true=>
   rw[H0]at hn
   unfold Mb at hlt hb
   cases h:Im (fun _ x=>q x) l 0 with
   |none=>rw[h]at hb;simp at hb
   |some k=>
    rw[h]at hlt
    simp only[Option.elim]at hlt
    obtain⟨j,y,rfl,h2,h3,h4⟩:=S4 h
    have:=hn j y (by rw[List.getElem?_take,if_pos zq0];exact h2)
    try simp only at h3
    rw[this]at h3;cases h3
 .intro hn
  rcases Int.lt_or_le (Mb q l) i with h|h
  .exact h
  .exfalso
   have hall:Ee (fun _ y=>q y) (l.take i)=true:=by
    rw[H0]
    intro j y hj
    rw[List.getElem?_take]at hj
    split at hj
    .rename_i hlt
     cases hq2:q y with
     |false=>rfl
     |true=>have:=Agq hj hq2;omega
    .cases hj
   rw[hall]at hn;cases hn
theorem A09 {E:Type} {q:E->Bool} {l:List E}: -1<=Mb q l/\Mb q l<l.length:=by
 unfold Mb
 cases h:Im (fun _ x=>q x) l 0 with
 |none=>simp[Option.elim];omega
 |some k=>
  obtain⟨j,y,rfl,h2,_⟩:=S4 h
  have:=(List.getElem?_eq_some_iff.1 h2).1
  simp[Option.elim];omega
theorem Azr {E:Type} (q:E->Bool) (l:List E):(sm ((Im (fun _ x=>q x) l 0).elim (Sum.inr ()) fun i=>Sum.inl ((i:Int),())) (fun c:Int×Unit=>some (c.1,())) fun _:Unit=>some ((-1:Int),()))=some (Mb q l,()):=by
 unfold Mb
 cases Im (fun _ x=>q x) l 0<;>rfl
def Es (l:List Al) (s:List YB):Int:=Mb (fun x=>Cv x.2.2.1 s) l
theorem Pt (t:Ck) (a:YBs) (h:t.2.1.length<=4294967296):M5 t a=some (Es t.2.1 a.1,()):=by
 obtain⟨cap,l,_⟩:=t
 obtain⟨s,_⟩:=a
 simp only at h
 have hl:=O9 (B:=R8) l (fun i=>(s,l,(l.length:Int),(i:Int),())) (fun _ x=>Cv x.2.2.1 s) (fun i=>((i:Int),())) ()
  (fun i x hi hx=>by
   unfold R8
   simp (disch:=omega) only[Af,Ah,Aa,Dh hi,A6,B8 hx,Ac,w64,Gk]
   rfl)
  (by unfold R8;simp only[Af,Aa,Di,Ao])
 unfold M5 Ar9
 simp only[Ah,Aa,Ey]
 rw[show((0:Int))=((0:Nat):Int)from rfl,hl]
 exact Azr _ _
theorem At9 (t:Ck) (a:YBs) (h:t.2.1.length<=4294967296):T5 t a=some (Es t.2.1 a.1,()):=by
 obtain⟨cap,l,_⟩:=t
 obtain⟨s,_⟩:=a
 simp only at h
 have hl:=O9 (B:=Rx) l (fun i=>(s,(i:Int),cap,l,())) (fun _ x=>Cv x.2.2.1 s) (fun i=>((i:Int),())) ()
  (fun i x hi hx=>by
   unfold Rx
   simp (disch:=omega) only[Af,Ah,Aa,Dh hi,A6,B8 hx,Ac,w64,S1]
   rfl)
  (by unfold Rx;simp only[Af,Aa,Di,Ao])
 unfold T5 Aqs
 simp only[Ah,Aa,Ey]
 rw[show((0:Int))=((0:Nat):Int)from rfl,hl]
 exact Azr _ _
theorem Nb (a:List YB):Cv a a=true:=by simp[Cv]
def E0 (t:Ck):Int:=match Wl t with|some r=>r.1|none=>0
theorem Bhj (t:Ck) (h:t.2.1.length<=4294967296):Wl t=some (E0 t,()):=by
 obtain⟨r,h1,h2⟩:=Bmb t h
 unfold E0;rw[h1]
theorem Bqz (t:Ck) (h:t.2.1.length<=4294967296):Aio t=some (E0 t,()):=by
 obtain⟨r,h1,h2⟩:=Bmb t h
 unfold E0;rw[h1,h2]
def Ank (t:Ck) (a:A8):Bool:=match Abq t a with|some r=>r.1|none=>false
theorem Bq0 (t:Ck) (a:A8) (h:t.2.1.length<=4294967296):Abq t a=some (Ank t a,()):=by
 obtain⟨r,h1,h2⟩:=Bmc t a h
 unfold Ank;rw[h1]
theorem Bq1 (t:Ck) (a:A8) (h:t.2.1.length<=4294967296):Ai0 t a=some (Ank t a,()):=by
 obtain⟨r,h1,h2⟩:=Bmc t a h
 unfold Ank;rw[h1,h2]
def Lm (l:List Al) (i:Nat) (x:Al):Bool:= !(Dk x && !decide (Es l x.2.2.1<i))
def Je (t:Ck):Bool:=inR t.1 1 6 && (!decide ((t.2.1.length:Int)>12) && (!decide (E0 t>t.1) && Ee (Lm t.2.1) t.2.1))
theorem Apg (t:Ck) (h:Cf t<=4294967296):W8 t=some (Je t,()):=by
 obtain⟨cap,l,_⟩:=t
 simp only[Cf]at h
 have hl:=Gb (B:=U7) l (fun i=>(l,(l.length:Int),(i:Int),cap,l,())) (Lm l) (false,()) ()
  (fun i x hi hx=>by
   have h2:=Ln (f:=A5) hx
   unfold U7
   simp only[Af,Ah,Aa,Dh hi,A6,B8 hx,Ac]
   rw[Wr x zq0,Pt _ _ zq2,w64 zq0]
   simp only[Ac,Lm]
   cases Dk x<;>cases decide (Es l x.2.2.1<(i:Int))<;>rfl)
  (by unfold U7;simp only[Af,Aa,Di,Ao])
 unfold W8 Ayf Je
 simp only[Af,Ah,Aa,Ey,Cm,Ac]
 rw[Bhj _ zq2,show((0:Int))=((0:Nat):Int)from rfl,hl]
 simp only[Ac]
 cases inR cap 1 6<;>cases decide ((l.length:Int)>12)<;>cases decide (E0 (cap,l,())>cap)<;>cases Ee (Lm l) l<;>rfl
theorem Bmf (t:Ck) (h:Cf t<=4294967296):Akh t=some (Je t,()):=by
 obtain⟨cap,l,_⟩:=t
 simp only[Cf]at h
 have hl:=Gb (B:=Uw) l (fun i=>((i:Int),cap,l,())) (Lm l) (false,()) ()
  (fun i x hi hx=>by
   have h2:=Ln (f:=A5) hx
   have h3:=Agq (q:=fun y=>Cv y.2.2.1 x.2.2.1) hx (Nb _)
   have h4:(Es l x.2.2.1 != (i:Int))=decide (Es l x.2.2.1<(i:Int)):=by
    apply Kv;unfold Es;simp;omega
   unfold Uw
   simp only[Af,Ah,Aa,Dh hi,A6,B8 hx,Ac]
   rw[Ai5 x zq0,At9 _ _ zq2,w64 zq0]
   simp only[Ac,Lm,h4]
   cases Dk x<;>cases decide (Es l x.2.2.1<(i:Int))<;>rfl)
  (by unfold Uw;simp only[Af,Aa,Di,Ao])
 unfold Akh Axb Je
 simp only[Af,Ah,Aa,Ey,Cy,Ac]
 rw[Bqz _ zq2,show((0:Int))=((0:Nat):Int)from rfl,hl]
 simp only[Ac]
 cases inR cap 1 6<;>cases decide ((l.length:Int)>12)<;>cases decide (E0 (cap,l,())>cap)<;>cases Ee (Lm l) l<;>rfl
def Df (l:List An) (a:A8):Int:=Mb (fun x=>eqA x.1 x.2.1 a.1 a.2.1) l
theorem Aal (l:List An) (a:A8) (h:l.length<=4294967296):Oo (l,()) a=some (Df l a,()):=by
 obtain⟨p,q,_⟩:=a
 have hl:=O9 (B:=Oe) l (fun i=>(l,(l.length:Int),(i:Int),p,q,())) (fun _ x=>eqA x.1 x.2.1 p q) (fun i=>((i:Int),())) ()
  (fun i x hi hx=>by
   unfold Oe
   simp (disch:=omega) only[Af,Ah,Aa,Dh hi,A6,B8 hx,Ac,w64]
   rfl)
  (by unfold Oe;simp only[Af,Aa,Di,Ao])
 unfold Oo Ahr
 simp only[Ah,Aa,Ey]
 rw[show((0:Int))=((0:Nat):Int)from rfl,hl]
 exact Azr _ _
theorem Abz (l:List An) (a:A8) (h:l.length<=4294967296):Adz (l,()) a=some (Df l a,()):=by
 obtain⟨p,q,_⟩:=a
 have hl:=O9 (B:=U2) l (fun i=>(l,(i:Int),p,q,())) (fun _ x=>eqA x.1 x.2.1 p q) (fun i=>((i:Int),())) ()
  (fun i x hi hx=>by
   unfold U2
   simp (disch:=omega) only[Af,Ah,Aa,Dh hi,A6,B8 hx,Ac,w64]
   rfl)
  (by unfold U2;simp only[Af,Aa,Di,Ao])
 unfold Adz Axu
 simp only[Ah,Aa,Ey]
 rw[show((0:Int))=((0:Nat):Int)from rfl,hl]
 exact Azr _ _
theorem Bhk (a b:Int):eqA a b a b=true:=by simp[eqA]
def Uf (l:List An) (i:Nat) (x:An):Bool:=
 !(Cq (x.1,x.2.1,()) && (inR x.2.2.1 0 1000000 && (inR x.2.2.2.1 0 (IntKind.i64.wrap (3*x.2.2.1)) && !decide (Df l (x.1,x.2.1,())<i))))
def Cr (l:List An):Bool:= !decide ((l.length:Int)>8) && Ee (Uf l) l
theorem Vj (l:List An) (h:l.length<=4294967296):Mo (l,())=some (Cr l,()):=by
 have hl:=Gb (B:=Mw) l (fun i=>(l,l,(l.length:Int),(i:Int),())) (Uf l) (false,()) ()
  (fun i x hi hx=>by
   unfold Mw
   simp only[Af,Ah,Aa,Dh hi,A6,B8 hx,Ac,Ik,Cm]
   rw[Aal _ _ h,w64 (n:=(i:Int)+1) zq0]
   simp only[Ac,Uf]
   cases Cq (x.1,x.2.1,())<;>cases inR x.2.2.1 0 1000000<;>cases inR x.2.2.2.1 0 (IntKind.i64.wrap (3*x.2.2.1))<;>cases decide (Df l (x.1,x.2.1,())<(i:Int))<;>rfl)
  (by unfold Mw;simp only[Af,Aa,Di,Ao])
 unfold Mo Aet Cr
 simp only[Af,Ah,Aa,Ey]
 rw[show((0:Int))=((0:Nat):Int)from rfl,hl]
 simp only[Ac]
 cases decide ((l.length:Int)>8)<;>cases Ee (Uf l) l<;>rfl
theorem Bti (l:List An) (h:l.length<=4294967296) (i:Nat) (x:An) (hx:l[i]? =some x):
  A0 Id (l,(i:Int),(0:Int),())=some (bif Ee (fun _ y=>eqA y.1 y.2.1 x.1 x.2.1) (l.take i)then .inr (l,(i:Int),())else .inl (false,())):=by
 have hi:=(List.getElem?_eq_some_iff.1 hx).1
 have hlen:(l.take i).length=i:=by simp;omega
 have hl:=Gb (B:=Id) (l.take i) (fun j=>(l,(i:Int),(j:Int),())) (fun _ y=>eqA y.1 y.2.1 x.1 x.2.1) (false,()) (l,(i:Int),())
  (fun j y hj hy=>by
   have hy2:l[j]? =some y:=by rw[List.getElem?_take]at hy;split at hy;exact hy;cases hy
   unfold Id
   simp (disch:=omega) only[Af,Ah,Aa,Dh (show j<i by omega),A6,B8 hy2,B8 hx,Ac,w64]
   rfl)
  (by unfold Id;rw[hlen];simp only[Af,Aa,Di,Ao])
 rw[show((0:Int))=((0:Nat):Int)from rfl,hl]
theorem K8 (l:List An) (h:l.length<=4294967296):Mn (l,())=some (Cr l,()):=by
 have hl:=Gb (B:=Jz) l (fun i=>(l,(i:Int),())) (Uf l) (false,()) ()
  (fun i x hi hx=>by
   have h3:=A08 (q:=fun y:An=>eqA y.1 y.2.1 x.1 x.2.1) hx (Bhk _ _)
   unfold Jz
   simp only[Af,Ah,Aa,Ey,Dh hi,A6,B8 hx,Ac,Il,Cy]
   rw[Bti l h i x hx]
   unfold Uf Df
   simp only[Ac]
   rw[h3]
   cases Cq (x.1,x.2.1,())<;>cases inR x.2.2.1 0 1000000<;>cases inR x.2.2.2.1 0 (IntKind.i64.wrap (3*x.2.2.1))<;>cases Ee (fun _ (y:An)=>eqA y.1 y.2.1 x.1 x.2.1) (l.take i)<;>first|rfl|(simp only[cond_true,A5h,br,Bool.not_true];rw[w64 zq0];rfl))
  (by unfold Jz;simp only[Af,Aa,Di,Ao])
 unfold Mn Vu Cr
 simp only[Af,Ah,Aa,Ey]
 rw[show((0:Int))=((0:Nat):Int)from rfl,hl]
 simp only[Ac]
 cases decide ((l.length:Int)>8)<;>cases Ee (Uf l) l<;>rfl
theorem A8t (l:List An) (a:A8) (h:l.length<=4294967296): ∃r,K6 (l,()) a=some r/\Jc (l,()) a=some r:=by
 unfold K6 Acu Jc U3
 simp only[Af,Ah,Aa]
 rw[Aal _ _ h,Abz _ _ h,Vj _ h,K8 _ h]
 simp only[Ac]
 have hb:=A09 (q:=fun x:An=>eqA x.1 x.2.1 a.1 a.2.1) (l:=l)
 cases Cr l with
 |false=>exact⟨_,rfl,rfl⟩
 |true=>
  by_cases hn:Df l a<0
  .rw[Ai hn];exact⟨_,rfl,rfl⟩
  .rw[Bt hn]
   obtain⟨e,he,_⟩:=Wp (l:=l) (n:=Df l a) zq0 (by unfold Df;omega)
   rw[he]
   exact⟨_,rfl,rfl⟩
def Aph (l:List An) (a:A8):Int:=match K6 (l,()) a with|some r=>r.1|none=>0
theorem Bq2 (l:List An) (a:A8) (h:l.length<=4294967296):K6 (l,()) a=some (Aph l a,()):=by
 obtain⟨r,h1,h2⟩:=A8t l a h
 unfold Aph;rw[h1]
theorem Bq3 (l:List An) (a:A8) (h:l.length<=4294967296):Jc (l,()) a=some (Aph l a,()):=by
 obtain⟨r,h1,h2⟩:=A8t l a h
 unfold Aph;rw[h1,h2]
def Api (s:Bc) (a:A8) (n:Int):Bool:=Ank (s.2.2.2.2.1,s.2.2.2.2.2.1,()) a || decide (Aph s.2.2.2.2.2.2.1 a≥n)
theorem Ai6 (s:Bc) (a:A8) (n:YI) (h:Bh s<=4294967296):Af3 s a n=some (Api s a n.1,()):=by
 simp only[Bh]at h
 unfold Af3 Asg Api
 simp only[Af,Ah,Aa]
 rw[Bq0 _ _ zq2,Bq2 _ _ zq0]
 simp only[Ac,Bf0]
theorem Bhl (s:Bc) (a:A8) (n:YI) (h:Bh s<=4294967296):Uc s a n=some (Api s a n.1,()):=by
 simp only[Bh]at h
 unfold Uc As2 Api
 simp only[Af,Ah,Aa]
 rw[Bq1 _ _ zq2,Bq3 _ _ zq0]
 simp only[Ac,Bf0]
theorem Ff {E:Type} {l:List E} {i:Nat} {x:E} (h:l[i]? =some x):l.take i++[x]=l.take (i+1):=by
 rw[List.take_add_one,h];rfl
theorem Cb (b:YBs) (h:b.1.length<=4294967296):Bq b=some b:=by
 unfold Bq Ax8
 simp only[Ak,Aa,List.length_nil,Nat.zero_add,List.nil_append]
 rw[Ai h];rfl
def byt (n:Int) (j:Nat):YB:=(IntKind.u8.wrap (IntKind.i64.wrap ((BitVec.ofInt (IntKind.i64.bits) (Int.fdiv n (2^(min (8*j) IntKind.i64.bits))) &&& BitVec.ofInt (IntKind.i64.bits) (255:Int)).toNat:Nat)),())
def F9 (n:Int) (k i:Nat):List YB:=(List.range i).map fun j=>byt n (k-1-j)
theorem Fi (n:Int) (k i:Nat):(F9 n k i).length=i:=by simp[F9]
theorem Bvg:Fu=Fb:=rfl
theorem A8u (b:List YB) (n:Int) (k:Nat) (h1:1<=k) (h6:k<=6) (hl:b.length<=1073741824):Fb (b,()) (n,()) ((k:Int),())=some (b++F9 n k k,()):=by
 have hr:=Cs (B:=Xq) k (fun i=>(n,b++F9 n k i,(k:Int)-1-(i:Int),())) (b++F9 n k k,())
  (fun i hi=>by
   unfold Xq
   simp only[Af,Ak,Aa]
   have e:(8:Int)*((k:Int)-1-(i:Int))=((8*(k-1-i):Nat):Int):=by omega
   rw[Ai zq0,A6,w64 (n:=8*((k:Int)-1-(i:Int))) zq0,Ai zq0,Ay,Ai zq4,Ay,w64 (n:=(k:Int)-1-(i:Int)-1) zq0,e,Int.toNat_natCast]
   have e2:(b++F9 n k i)++[byt n (k-1-i)]=b++F9 n k (i+1):=by
    unfold F9;rw[List.range_succ,List.map_append,List.append_assoc];rfl
   rw[<-e2,show(k:Int)-1-((i+1:Nat):Int)=(k:Int)-1-(i:Int)-1 by omega]
   rfl)
  (by unfold Xq;simp only[Af,Aa,Ak];rw[Bt zq0,Ao])
 unfold Fb A3x
 simp only[Af,Ak,Ah,Aa,List.nil_append,List.length_nil,Nat.zero_add]
 rw[Ai zq0,Ay,Bt zq0,Ao,Bt zq0,Ao,w64 zq0]
 have e0:(n,b,(k:Int)-1,())=(n,b++F9 n k 0,(k:Int)-1-((0:Nat):Int),()):=by simp[F9]
 rw[e0,hr]
 rfl
theorem Bhm (b:List YB) (n:Int) (k:Nat) (h1:1<=k) (h6:k<=6) (hl:b.length<=1073741824):Fu (b,()) (n,()) ((k:Int),())=some (b++F9 n k k,()):=by
 rw[Bvg];exact A8u b n k h1 h6 hl
theorem Lo (b:List YB) (n:Int) (hl:b.length<=1073741824):Fb (b,()) (n,()) ((4:Int),())=some (b++F9 n 4 4,()):=A8u b n 4 zq0 zq0 hl
theorem Bmg (b:List YB) (n:Int) (hl:b.length<=1073741824):Fb (b,()) (n,()) ((6:Int),())=some (b++F9 n 6 6,()):=A8u b n 6 zq0 zq0 hl
theorem Ov (b:List YB) (n:Int) (hl:b.length<=1073741824):Fu (b,()) (n,()) ((4:Int),())=some (b++F9 n 4 4,()):=Bhm b n 4 zq0 zq0 hl
theorem Bbd (b:List YB) (n:Int) (hl:b.length<=1073741824):Fu (b,()) (n,()) ((6:Int),())=some (b++F9 n 6 6,()):=Bhm b n 6 zq0 zq0 hl
def cat:List YBs->List YB
 |[]=>[]
 |x::r=>x.1++cat r
theorem Bhn (l:List YBs) (x:YBs):cat (l++[x])=cat l++x.1:=by
 induction l with
 |nil=>simp[cat]
 |cons y r ih=>simp[cat,ih]
theorem Blc (l:List YBs) (i:Nat):(cat (l.take i)).length<=(cat l).length:=by
 induction l generalizing i with
 |nil=>simp
 |cons y r ih=>cases i with
  |zero=>simp[cat]
  |succ i=>simp[cat];exact ih i
theorem Hv (l:List YBs) (h:(cat l).length<=4294967296) (h2:l.length<=4294967296):Fe (l,())=some (cat l,()):=by
 have hr:=Cs (B:=Of) l.length (fun i=>(cat (l.take i),l,(l.length:Int),(i:Int),())) (cat l,())
  (fun i hi=>by
   have hx:=List.getElem?_eq_getElem hi
   have h3:=Blc l (i+1)
   rw[<-Ff hx,Bhn]at h3
   simp only[List.length_append]at h3
   unfold Of
   simp only[Af,Ah,Aa,Ak,Dh hi,A6,B8 hx,Ac]
   rw[Ai zq0,Ay,w64 zq0,<-Bhn,Ff hx]
   rfl)
  (by unfold Of;simp only[Af,Aa,Di,Ao,List.take_length])
 unfold Fe Ase
 simp only[Ah,Aa]
 rw[show A0 Of ([],l,(l.length:Int),(0:Int),())=some (cat l,())from hr]
 rfl
theorem Ws (n:YI):M6 n=some (inR n.1 4 8,()):=by
 unfold M6 Asc
 simp only[Ah,Aa,Cm,Ac]
theorem Wt (n:YI):M0 n=some (inR n.1 4 8,()):=by
 unfold M0 Aqt
 simp only[Ah,Aa,Cy,Ac]
def Jo (k n:Int):Bool:=bif k==4 then decide (n<=40)else bif k==5 then n==12 else bif k==6 then n==12 else n==4
theorem Btj (k n:YI):Ats k n=some (Jo k.1 n.1,()):=by
 unfold Ats Asd Jo
 simp only[Af,Aa,Agd]
theorem A5i (k n:YI):Z2 k n=some (Jo k.1 n.1,()):=by
 unfold Z2 Aqu Jo
 simp only[Af,Aa,Agd]
theorem Bld (f g:Ap):Mp f g=some ((f.1==g.1) && ((f.2.1==g.2.1) && ((f.2.2.2.2.1==g.2.2.2.2.1) && ((f.2.2.2.2.2.2.2.1==g.2.2.2.2.2.2.2.1) && ((f.2.2.2.2.2.2.2.2.1==g.2.2.2.2.2.2.2.2.1) && (Cv f.2.2.1 g.2.2.1 && (Cv f.2.2.2.1 g.2.2.2.1 &&
  (Cv f.2.2.2.2.2.1 g.2.2.2.2.2.1 && (Cv f.2.2.2.2.2.2.1 g.2.2.2.2.2.2.1 && (Cv f.2.2.2.2.2.2.2.2.2.1 g.2.2.2.2.2.2.2.2.2.1 && Cv f.2.2.2.2.2.2.2.2.2.2.1 g.2.2.2.2.2.2.2.2.2.2.1))))))))),()):=by
 unfold Mp Aeu
 simp only[Af,Ah,Aa,Gk,Ac,S2]
def Bu (f:Ap):Bool:=
 bif inR f.1 4 8 then(f.2.1==0) && (((f.2.2.1.length:Int)==0) && (((f.2.2.2.1.length:Int)==12) && ((f.2.2.2.2.1==0) && (((f.2.2.2.2.2.1.length:Int)==0) && (((f.2.2.2.2.2.2.1.length:Int)==0) && (inR f.2.2.2.2.2.2.2.1 0 4294967295 && (inR f.2.2.2.2.2.2.2.2.1 0 281474976710655 &&
  (Jo f.1 (f.2.2.2.2.2.2.2.2.2.1.length:Int) && ((f.2.2.2.2.2.2.2.2.2.2.1.length:Int)==16)))))))))
 else(f.2.2.2.2.2.2.2.1==0) && ((f.2.2.2.2.2.2.2.2.1==0) && (((f.2.2.2.2.2.2.2.2.2.1.length:Int)==0) && (((f.2.2.2.2.2.2.2.2.2.2.1.length:Int)==0) && (((f.2.2.1.length:Int)==12) &&
  (bif f.1==1 then inR f.2.1 1 9 && (((f.2.2.2.1.length:Int)==0) && ((f.2.2.2.2.1==0) && (((f.2.2.2.2.2.1.length:Int)==0) && ((f.2.2.2.2.2.2.1.length:Int)==0))))
   else bif f.1==2 then(f.2.1==0) && (((f.2.2.2.1.length:Int)==12) && (inR f.2.2.2.2.1 0 1000000 && (((f.2.2.2.2.2.1.length:Int)==16) && ((f.2.2.2.2.2.2.1.length:Int)==0))))
   else(f.1==3) && (inR f.2.1 1 9 && (((f.2.2.2.1.length:Int)==12) && (inR f.2.2.2.2.1 0 1000000 && (((f.2.2.2.2.2.1.length:Int)==16) && ((f.2.2.2.2.2.2.1.length:Int)==16))))))))))
theorem Jp (f:Ap):I9 f=some (Bu f,()):=by
 unfold I9 Alo Bu
 simp only[Af,Ah,Aa,Wt,Cy,A5i,Ac,Agd,bne,Bool.cond_false_right,Bool.cond_true_left,Bool.cond_false_left,Bool.not_not]
theorem Jq (f:Ap):Dn f=some (Bu f,()):=by
 obtain⟨kind,id,cn,sn,tick,cookie,proof,epoch,seq,body,tag,_⟩:=f
 unfold Dn Amk Bu
 simp only[Af,Ah,Aa,Ws,Cm,Hz,Btj,Bld,Bdj,Nb,beq_self_eq_true,Bool.true_and,Bool.and_true,Ac,Agd,Bool.cond_false_right,Bool.cond_true_left,Bool.cond_false_left,Bool.not_not]
 refine congrArg (fun b=>some (b,())) ?_
 by_cases h1:kind=1
 .subst h1
  apply Kv
  simp[inR]
  grind
 .by_cases h2:kind=2
  .subst h2
   apply Kv
   simp[inR]
   grind
  .by_cases h3:kind=3
   .subst h3
    apply Kv
    simp[inR]
    grind
   .have e1:(kind==1)=false:=by simpa using h1
    have e2:(kind==2)=false:=by simpa using h2
    have e3:(kind==3)=false:=by simpa using h3
    rw[e1,e2,e3]
    cases inR kind 4 8 with
    |false=>simp
    |true=>
     cases hb:Jo kind (body.length:Int)with
     |false=>simp
     |true=>
      apply Kv
      simp[inR]
      grind
def D8 (f:Ap):List YB:=
 bif !Bu f then []else
 bif f.1==1 then(IntKind.u8.wrap f.1,())::(IntKind.u8.wrap f.2.1,())::(f.2.2.1++List.replicate 20 ((0:Int),()))
 else bif f.1==2 then(IntKind.u8.wrap f.1,())::(f.2.2.1++(f.2.2.2.1++(F9 f.2.2.2.2.1 4 4++f.2.2.2.2.2.1)))
 else bif f.1==3 then(IntKind.u8.wrap f.1,())::(IntKind.u8.wrap f.2.1,())::(f.2.2.1++(f.2.2.2.1++(F9 f.2.2.2.2.1 4 4++(f.2.2.2.2.2.1++f.2.2.2.2.2.2.1))))
 else(IntKind.u8.wrap f.1,())::(f.2.2.2.1++(F9 f.2.2.2.2.2.2.2.1 4 4++(F9 f.2.2.2.2.2.2.2.2.1 6 6++(f.2.2.2.2.2.2.2.2.2.2.1++f.2.2.2.2.2.2.2.2.2.1))))
theorem Bvh (b:List YB) (hl:b.length<=1073741824):A0 J1 (b,(0:Int),())=some (b++List.replicate 20 ((0:Int),()),()):=by
 have hr:=Cs (B:=J1) 20 (fun i=>(b++List.replicate i ((0:Int),()),(i:Int),())) (b++List.replicate 20 ((0:Int),()),())
  (fun i hi=>by
   unfold J1
   simp only[Af,Ak,Aa]
   rw[Ai zq0,A6,Ai zq1,Ay,w64 zq0,List.append_assoc,<-List.replicate_succ']
   rfl)
  (by unfold J1;simp only[Af,Aa,Ak];rfl)
 simpa using hr
theorem Aua (f:Ap) (h:Av f<=536870912):Ft f=some (D8 f,()):=by
 obtain⟨kind,id,cn,sn,tick,cookie,proof,epoch,seq,body,tag,_⟩:=f
 simp only[Av]at h
 unfold Ft Ahd D8
 simp only[Af,Ah,Aa,Ak,Jp,Ac]
 cases Bu (kind,id,cn,sn,tick,cookie,proof,epoch,seq,body,tag,PUnit.unit)with
 |false=>rfl
 |true=>
  simp only[Bool.not_true,Ao,cond_false]
  cases kind==1 with
  |true=>
   simp only[A6,cond_true]
   rw[Ai zq3,Ay,Ai zq1,Ay,Bvh _ zq1]
   simp[ob]
  |false=>
   cases kind==2 with
   |true=>
    simp only[A6,Ao,cond_true,cond_false]
    rw[Ai zq1,Ay,Ai zq1,Ay,Lo _ _ zq1,Ac,Ai zq4,Ay]
    simp
   |false=>
    cases kind==3 with
    |true=>
     simp only[A6,Ao,cond_true,cond_false]
     rw[Ai zq3,Ay,Ai zq1,Ay,Ai zq1,Ay,Lo _ _ zq1,Ac,Ai zq4,Ay,Ai zq4,Ay]
     simp
    |false=>
     simp only[Ao,cond_false]
     rw[Ai zq1,Ay,Lo _ _ zq1,Ac,Bmg _ _ zq4,Ac,Ai zq4,Ay,Ai zq4,Ay]
     simp
theorem Aub (f:Ap) (h:Av f<=536870912):El f=some (D8 f,()):=by
 obtain⟨kind,id,cn,sn,tick,cookie,proof,epoch,seq,body,tag,_⟩:=f
 simp only[Av]at h
 unfold El Ahv D8
 simp only[Af,Ah,Aa,Ak,Jq,Ac]
 cases Bu (kind,id,cn,sn,tick,cookie,proof,epoch,seq,body,tag,PUnit.unit)with
 |false=>rfl
 |true=>
  simp only[Bool.not_true,Ao,cond_false]
  cases kind==1 with
  |true=>
   simp only[A6,cond_true]
   rw[Hv _ zq5 zq3]
   simp[ob,cat]
  |false=>
   cases kind==2 with
   |true=>
    simp only[A6,Ao,cond_true,cond_false]
    rw[Ov _ _ zq3,Ac,Hv _ zq6 zq3]
    simp[ob,cat]
   |false=>
    cases kind==3 with
    |true=>
     simp only[A6,Ao,cond_true,cond_false]
     rw[Ov _ _ zq3,Ac,Hv _ zq6 zq3]
     simp[ob,cat]
    |false=>
     simp only[Ao,cond_false]
     rw[Ov _ _ zq3,Ac,Bbd _ _ zq3,Ac,Hv _ zq6 zq3]
     simp[ob,cat]
def m32 (x:Int):Int:=IntKind.i64.wrap ((BitVec.ofInt (IntKind.i64.bits) x &&& BitVec.ofInt (IntKind.i64.bits) (4294967295:Int)).toNat:Nat)
theorem Azs (x:Int):m32 x=x%4294967296:=by
 have h:((BitVec.ofInt (IntKind.i64.bits) x &&& BitVec.ofInt (IntKind.i64.bits) (4294967295:Int)).toNat:Int)=x%4294967296:=by
  show((BitVec.ofInt 64 x &&& BitVec.ofInt 64 (4294967295:Int)).toNat:Int)=x%4294967296
  rw[BitVec.toNat_and,BitVec.toNat_ofInt,BitVec.toNat_ofInt]
  have e:((4294967295:Int)%((2^64:Nat):Int)).toNat=2^32-1:=by decide
  rw[e,Nat.and_two_pow_sub_one_eq_mod]
  have e2:((2^64:Nat):Int)=18446744073709551616:=by decide
  rw[e2]
  omega
 unfold m32
 rw[h,w64 zq0]
theorem Bx0 (s:Int):IntKind.i64.wrap s%4294967296=s%4294967296:=by rw[IntKind.wrap_i64];omega
theorem Auc (s:Int):m32 (IntKind.i64.wrap s)=s%4294967296:=by rw[Azs,Bx0]
theorem Bx1 (x:Int):0<=m32 x/\m32 x<=4294967295:=by rw[Azs];omega
theorem Btk (d t:Int):m32 (IntKind.i64.wrap (d+m32 t))=m32 (IntKind.i64.wrap (d+t)):=by rw[Auc,Auc,Azs];omega
theorem Btl (t u:Int):m32 (IntKind.i64.wrap (m32 t+m32 u))=m32 (IntKind.i64.wrap (t+u)):=by rw[Auc,Auc,Azs,Azs];omega
def Bn6 (x n:Int):Int:=m32 (IntKind.i64.wrap ((BitVec.ofInt (IntKind.i64.bits) (Int.fdiv (m32 x) (2^(min n.toNat IntKind.i64.bits))) ||| BitVec.ofInt (IntKind.i64.bits) (IntKind.i64.wrap (m32 x*2^(min (IntKind.i64.wrap (32-n)).toNat IntKind.i64.bits)))).toNat:Nat))
theorem A8v (x n:YI) (h1:1<=n.1) (h2:n.1<=31):Mq x n=some (Bn6 x.1 n.1,()):=by
 unfold Mq Bal
 simp only[Af,Ak,Aa]
 rw[Bt zq0,Bt zq0,Ai zq0,w64 (n:=32-n.1) zq0,Ai zq0]
 simp only[Ao,Ay,Bn6]
 rw[w64 (n:=32-n.1) zq0]
 rfl
theorem A8w (x n:YI) (h1:1<=n.1) (h2:n.1<=31):Mm x n=some (Bn6 x.1 n.1,()):=by
 unfold Mm A95
 simp only[Af,Ak,Aa]
 rw[Bt zq0,Bt zq0,Ai zq0,w64 (n:=32-n.1) zq0,Ai zq0]
 simp only[Ao,Ay,Bn6]
 rw[w64 (n:=32-n.1) zq0]
 rfl
theorem Bmh (a b:YI):Akm a b=some (m32 (IntKind.i64.wrap (a.1+b.1)),()):=rfl
def Qs (l:List YB):Int:=l.foldl (fun n x=>IntKind.i64.wrap (IntKind.i64.wrap (n*256)+IntKind.i64.wrap x.1)) 0
theorem A29 (l:List YB) (x:YB):Qs (l++[x])=IntKind.i64.wrap (IntKind.i64.wrap (Qs l*256)+IntKind.i64.wrap x.1):=by simp[Qs]
def Wu (b:List YB) (p k:Int):YI×YI×(Bool×Unit):=
 if 1<=k/\k<=6/\0<=p/\p+k<=b.length then((Qs ((b.drop p.toNat).take k.toNat),()),(p+k,()),(true,()))else((0,()),(0,()),(false,()))
theorem Azt (b:List YB) (p k:Int) (hl:b.length<=4294967296):Wg (b,()) (p,()) (k,())=some (Wu b p k):=by
 unfold Wg A3z Wu
 simp only[Af,Ah,Aa]
 by_cases h1:k<1
 .rw[Ai h1,A6,if_neg zq0]
 rw[Bt h1,Ao]
 by_cases h2:k>6
 .rw[Ai h2,A6,if_neg zq0]
 rw[Bt h2,Ao]
 by_cases h3:p<0
 .rw[Ai h3,A6,if_neg zq0]
 rw[Bt h3,Ao,w64 (n:=(b.length:Int)-k) zq0]
 by_cases h4:p>(b.length:Int)-k
 .rw[Ai h4,A6,if_neg zq0]
 rw[Bt h4,Ao,if_pos zq0]
 have hr:=Cs (B:=Tn) k.toNat (fun i=>(b,p,k,Qs ((b.drop p.toNat).take i),(i:Int),())) (p,k,Qs ((b.drop p.toNat).take k.toNat),())
  (fun i hi=>by
   have hlt:p.toNat+i<b.length:=by omega
   have hx:=List.getElem?_eq_getElem hlt
   have hx2:(b.drop p.toNat)[i]? =some b[p.toNat+i]:=by rw[List.getElem?_drop];exact hx
   unfold Tn
   simp only[Af,Ah,Aa]
   rw[Ai zq0,A6,w64 (n:=p+(i:Int)) zq0,show p+(i:Int)=((p.toNat+i:Nat):Int) by omega,B8 hx,Ac,w64 (n:=(i:Int)+1) zq0,<-Ff hx2,A29]
   rfl)
  (by
   unfold Tn
   simp only[Af,Ah,Aa]
   rw[Bt zq0,Ao])
 rw[show A0 Tn (b,p,k,(0:Int),(0:Int),())=_ from hr,Ac]
 simp only
 rw[w64 zq0]
theorem Bx2 (b:List YB) (p n:Int) (hl:b.length<=4294967296):Ba5 (b,()) (p,()) (n,())=some (if 0<=p/\0<=n/\p+n<=b.length then(((b.drop p.toNat).take n.toNat,()),(true,()))else(([],()),(false,()))):=by
 unfold Ba5 Bai
 simp only[Af,Ak,Aa]
 by_cases h1:p<0
 .rw[Ai h1,A6,if_neg zq0]
 rw[Bt h1,Ao]
 by_cases h2:n<0
 .rw[Ai h2,A6,if_neg zq0]
 rw[Bt h2,Ao]
 by_cases h3:p>(b.length:Int)
 .rw[Ai h3,A6,if_neg zq0]
 rw[Bt h3,Ao,w64 (n:=(b.length:Int)-p) zq0]
 by_cases h4:n>(b.length:Int)-p
 .rw[Ai h4,A6,if_neg zq0]
 rw[Bt h4,Ao,if_pos zq0,w64 (n:=p+n) zq0,Ai zq0,Ai zq0,Ai zq0,Ai zq1]
 simp only[Ay,List.nil_append]
 rw[show(p+n).toNat=p.toNat+n.toNat by omega,List.drop_take,Nat.add_sub_cancel_left]
theorem Bq4 (b:List YB) (p k:Int) (hl:b.length<=4294967296):Atr (b,()) (p,()) (k,())=some (Wu b p k):=by
 unfold Atr A4j Wu
 simp only[Af,Ah,Aa]
 by_cases h1:k<1
 .rw[Ai h1,A6,if_neg zq0]
 rw[Bt h1,Ao]
 by_cases h2:k>6
 .rw[Ai h2,A6,if_neg zq0]
 rw[Bt h2,Ao,Bx2 _ _ _ hl,Ac]
 by_cases h3:0<=p/\0<=k/\p+k<=b.length
 .rw[if_pos h3,if_pos zq0]
  simp only[Bool.not_true,Ao]
  have hlen:((b.drop p.toNat).take k.toNat).length=k.toNat:=by simp;omega
  have hr:=Cs (B:=Tw) k.toNat (fun i=>(p,k,Qs (((b.drop p.toNat).take k.toNat).take i),(b.drop p.toNat).take k.toNat,(((b.drop p.toNat).take k.toNat).length:Int),(i:Int),())) (p,k,Qs ((b.drop p.toNat).take k.toNat),())
   (fun i hi=>by
    have hx:=List.getElem?_eq_getElem (show i<((b.drop p.toNat).take k.toNat).length by omega)
    unfold Tw
    simp only[Af,Ah,Aa]
    rw[Ai zq0,A6,B8 hx,Ac,w64 (n:=(i:Int)+1) zq0,<-Ff hx,A29,Int.mul_comm 256]
    rfl)
   (by
    unfold Tw
    simp only[Af,Ah,Aa]
    rw[Bt zq0,Ao,List.take_take,Nat.min_self])
  rw[show A0 Tw (p,k,(0:Int),(b.drop p.toNat).take k.toNat,(((b.drop p.toNat).take k.toNat).length:Int),(0:Int),())=_ from hr,Ac]
  simp only
  rw[w64 zq0]
 .rw[if_neg h3,if_neg zq0]
  rfl
theorem Aud {E:Type} {l z:List E} {n:Int} (h0:0<=n) (h1:n<l.length):idx (l++z) n=idx l n:=by
 unfold idx
 rw[if_pos h0,if_pos h0,List.getElem?_append_left zq0]
theorem Bdl {l:List YI} {i k:Nat} (h:l.length=i) (hk:i<k) (x:YI):(l++List.replicate (k-i) ((0:Int),())).set i x=(l++[x])++List.replicate (k-(i+1)) ((0:Int),()):=by
 rw[List.set_append_right _ _ zq0,h,Nat.sub_self,show k-i=(k-(i+1))+1 by omega,List.replicate_succ,List.set_cons_zero]
 simp
theorem Bho {l:List YI} {i k:Nat} (h:l.length=i) (hk:i<k):idx (l++List.replicate (k-i) ((0:Int),())) (i:Int)=some ((0:Int),()):=by
 rw[Bn4,List.getElem?_append_right zq0,h,Nat.sub_self,List.getElem?_replicate,if_pos zq0]
theorem Ble (b:List YB) (hl:b.length<=4294967296): ∃r,Aiv (b,())=some (r,())/\Ail (b,())=some (r,())/\(b.length=64->r.length=64):=by
 unfold Aiv Zk Ail Xr
 simp only[Af,Ah,Aa]
 by_cases h:b.length=64
 .rw[C4 (by simp[h]),C4 (by simp[h])]
  obtain⟨o1,o2,h1,h2,hq⟩:=Wo (B1:=Lh) (B2:=Lb)
   (fun i d1 d2=>∃l:List YI,l.length=i/\d1=(b,l++List.replicate (64-i) ((0:Int),()),(i:Int),())/\d2=(b,l,(i:Int),()))
   (fun o1 o2=>o2.1.length=16/\o1=(o2.1++List.replicate 48 ((0:Int),()),())) 16
   (by
    rintro i d1 d2 hi ⟨l,hll,rfl,rfl⟩
    left
    unfold Lh Lb
    simp only[Af,Ah,Aa,Ak]
    rw[Ai zq0,A6,A6,w64 (n:=4*(i:Int)) zq0,Bq4 _ _ _ hl,Azt _ _ _ hl,Ac,Ac,Bho hll zq0,Ac,Ai zq1,Ay,w64 zq0,Int.toNat_natCast,Bdl hll zq0]
    exact⟨_,_,rfl,rfl,l++[(Wu b (4*(i:Int)) 4).1],by simp[hll],rfl,rfl⟩)
   (by
    rintro d1 d2 ⟨l,hll,rfl,rfl⟩
    unfold Lh Lb
    simp only[Af,Ah,Aa,Ak]
    rw[Bt zq0,Ao,Ao]
    exact⟨_,_,rfl,rfl,hll,by simp only[Nat.reduceSub]⟩)
   (d1:=(b,List.replicate 64 ((0:Int),()),(0:Int),())) (d2:=(b,[],(0:Int),())) ⟨[],rfl,by simp only[Nat.sub_zero,List.nil_append,Int.natCast_zero],by simp only[Int.natCast_zero]⟩
  rw[show(64:Int).toNat=64 from rfl,h1,h2,Ac,Ac]
  obtain⟨hq1,rfl⟩:=hq
  obtain⟨o3,o4,h3,h4,hq⟩:=Wo (B1:=Li) (B2:=Jy)
   (fun i d1 d2=>∃l:List YI,l.length=16+i/\d1=(l++List.replicate (64-(16+i)) ((0:Int),()),((16+i:Nat):Int),())/\d2=(l,((16+i:Nat):Int),()))
   (fun o1 o2=>o1=o2/\o2.1.length=64) 48
   (by
    rintro i d1 d2 hi ⟨l,hll,rfl,rfl⟩
    left
    obtain⟨e1,g1,_⟩:=Wp (l:=l) (n:=((16+i:Nat):Int)-15) zq0 zq0
    obtain⟨e2,g2,_⟩:=Wp (l:=l) (n:=((16+i:Nat):Int)-2) zq0 zq0
    obtain⟨e3,g3,_⟩:=Wp (l:=l) (n:=((16+i:Nat):Int)-7) zq0 zq0
    obtain⟨e4,g4,_⟩:=Wp (l:=l) (n:=((16+i:Nat):Int)-16) zq0 zq0
    unfold Li Jy
    simp only[Af,Ah,Aa,Ak]
    rw[Ai zq0,A6,A6,w64 (n:=((16+i:Nat):Int)-15) zq0,w64 (n:=((16+i:Nat):Int)-2) zq0,w64 (n:=((16+i:Nat):Int)-7) zq0,w64 (n:=((16+i:Nat):Int)-16) zq0,
     w64 (n:=((16+i:Nat):Int)+1) zq0]
    rw[Aud zq0 zq0,g1,Ac,Aud zq0 zq0,g2,Ac,A8v _ _ zq7 zq7,Ac,A8v _ _ zq7 zq7,Ac,A8v _ _ zq7 zq7,Ac,A8v _ _ zq7 zq7,Ac,Aud zq0 zq0,g3,Ac,Aud zq0 zq0,g4,Ac,Bho hll zq0,Ac]
    rw[Ac,Ac,A8w _ _ zq7 zq7,Ac,A8w _ _ zq7 zq7,Ac,A8w _ _ zq7 zq7,Ac,A8w _ _ zq7 zq7,Ac,Ac,Ac,Int.toNat_natCast]
    generalize IntKind.i64.wrap (((BitVec.ofInt _ _ &&& BitVec.ofInt _ (4294967295:Int)).toNat:Nat):Int)=z
    rw[Ai (by rw[List.length_singleton];omega),Ay,Bdl hll zq0]
    exact⟨_,_,rfl,rfl,_,by simp[hll];omega,rfl,rfl⟩)
   (by
    rintro d1 d2 ⟨l,hll,rfl,rfl⟩
    unfold Li Jy
    simp only[Af,Ah,Aa,Ak]
    rw[Bt zq0,Ao,Ao]
    exact⟨_,_,rfl,rfl,by simp,by omega⟩)
   (d1:=(o2.1++List.replicate 48 ((0:Int),()),(16:Int),())) (d2:=(o2.1,(16:Int),())) ⟨o2.1,hq1,by simp only[Nat.add_zero,Nat.reduceSub];rfl,rfl⟩
  rw[h3,h4]
  obtain⟨rfl,hq2⟩:=hq
  exact⟨o3.1,rfl,rfl,fun _=>hq2⟩
 .have h': ¬((b.length:Int)=64):=by omega
  rw[Dv (by simpa using h'),Dv (by simpa using h')]
  exact⟨[],rfl,rfl,fun h2=>(h h2).elim⟩
def kL:List YI:=U8.map fun x=>(x,())
theorem Bx3:Bma=some (kL,()):=rfl
theorem Blf (n:YI):Awm n=some (Ads n.1,()):=rfl
theorem Bx4 (i:Nat) (h:i<64):idx kL (i:Int)=some (Ads (i:Int),()):=by
 rw[Bn4]
 unfold kL Ads
 rw[List.getElem?_map,if_pos zq0,Int.toNat_natCast]
 have:i<U8.length:=by simpa [U8] using h
 rw[List.getElem?_eq_getElem this];rfl
theorem Bq5 (l:List YI) (hl:l.length<=4294967296):Am7 (l,())=some (Gw l && ((l.length:Int)==8),()):=by
 have h:=Gb (B:=Qh) l (fun i=>(l,(i:Int),())) (fun _ e=> !inR e.1 0 4294967295) (false,()) (l,())
  (fun i x hi hx=>by
   unfold Qh
   simp (disch:=omega) only[Af,Ah,Aa,Dh hi,A6,B8 hx,Ac,Cy,w64]
   rfl)
  (by unfold Qh;simp only[Af,Ah,Aa,Di,Ao])
 unfold Am7 Ali
 simp only[Ah,Ey,Aa]
 rw[show((0:Int))=((0:Nat):Int)from rfl,h]
 unfold Gw
 cases Ee (fun _ (e:YI)=> !inR e.1 0 4294967295) l<;>rfl
theorem Bq6 (x:BitVec IntKind.i64.bits):BitVec.ofInt (IntKind.i64.bits) (4294967295:Int) ^^^ x=x ^^^ BitVec.ofInt (IntKind.i64.bits) (4294967295:Int):=BitVec.xor_comm _ _
theorem Age {l:List YI}:Gw l=true↔ ∀(j:Nat) (x:YI),l[j]? =some x->0<=x.1/\x.1<=4294967295:=by
 unfold Gw
 rw[H0]
 simp only[Bool.not_eq_false',Bx]
theorem Bq7 (h out w:List YI) (hw:w.length=64) (a b c d e f g z:Int):
  ∃a' b' c' d' e' f' g' z',A0 I2 (h,out,w,a,b,c,d,e,f,g,z,(0:Int),())=some (h,out,a',b',c',d',e',f',g',z',())/\
   A0 I0 (h,out,kL,w,a,b,c,d,e,f,g,z,(0:Int),())=some (h,out,a',b',c',d',e',f',g',z',()):=by
 obtain⟨o1,o2,h1,h2,hq⟩:=Wo (B1:=I2) (B2:=I0)
  (fun i d1 d2=>∃a b c d e f g z:Int,d1=(h,out,w,a,b,c,d,e,f,g,z,(i:Int),())/\d2=(h,out,kL,w,a,b,c,d,e,f,g,z,(i:Int),()))
  (fun o1 o2=>o1=o2/\ ∃a b c d e f g z:Int,o1=(h,out,a,b,c,d,e,f,g,z,())) 64
  (by
   rintro i d1 d2 hi ⟨a,b,c,d,e,f,g,z,rfl,rfl⟩
   left
   obtain⟨x,hx⟩: ∃x,w[i]? =some x:=⟨_,List.getElem?_eq_getElem zq0⟩
   have hk:=Bx4 i hi
   unfold I2 I0
   simp only[Af,Ah,Aa,Ak]
   rw[Ai zq0,A6,A6]
   simp (disch:=decide) only[A8v,A8w,Ac,Blf,B8 hx,hk,Bmh,Bq6]
   rw[w64 (n:=(i:Int)+1) zq0]
   refine⟨_,_,rfl,rfl,_,_,_,_,_,_,_,_,rfl,?_⟩
   simp only[Prod.mk.injEq,true_and,and_true]
   exact⟨Btl _ _,Btk _ _,by omega⟩)
  (by
   rintro d1 d2 ⟨a,b,c,d,e,f,g,z,rfl,rfl⟩
   unfold I2 I0
   simp only[Af,Ah,Aa,Ak]
   exact⟨_,_,rfl,rfl,rfl,_,_,_,_,_,_,_,_,rfl⟩)
  (d1:=(h,out,w,a,b,c,d,e,f,g,z,(0:Int),())) (d2:=(h,out,kL,w,a,b,c,d,e,f,g,z,(0:Int),())) ⟨a,b,c,d,e,f,g,z,rfl,rfl⟩
 obtain⟨rfl,a',b',c',d',e',f',g',z',rfl⟩:=hq
 exact⟨_,_,_,_,_,_,_,_,h1,h2⟩
theorem Bvi (h l:List YI) (hh:h.length=8) (hl:l.length=8): ∃r:List YI,r.length=8/\Gw r=true/\A0 Ig (h,h,l,(l.length:Int),(0:Int),())=some (r,())/\A0 Ib (h,h,l,(0:Int),())=some (r,()):=by
 obtain⟨o1,o2,h1,h2,hq⟩:=Wo (B1:=Ig) (B2:=Ib)
  (fun i d1 d2=>∃out:List YI,out.length=8/\(∀j x,j<i->out[j]? =some x->0<=x.1/\x.1<=4294967295)/\d1=(h,out,l,(l.length:Int),(i:Int),())/\d2=(h,out,l,(i:Int),()))
  (fun o1 o2=>o1=o2/\o1.1.length=8/\Gw o1.1=true) 8
  (by
   rintro i d1 d2 hi ⟨out,ho,hb,rfl,rfl⟩
   left
   obtain⟨x,hx⟩: ∃x,h[i]? =some x:=⟨_,List.getElem?_eq_getElem zq0⟩
   obtain⟨y,hy⟩: ∃y,l[i]? =some y:=⟨_,List.getElem?_eq_getElem zq0⟩
   obtain⟨q,hq⟩: ∃q,out[i]? =some q:=⟨_,List.getElem?_eq_getElem zq0⟩
   unfold Ig Ib
   simp only[Af,Ah,Aa,Ak]
   rw[Ai zq0,Ai zq0,A6,A6]
   simp only[B8 hx,B8 hy,B8 hq,Ac,Bmh,Int.toNat_natCast]
   rw[w64 (n:=(i:Int)+1) zq0]
   refine⟨_,_,rfl,rfl,out.set i (m32 (IntKind.i64.wrap (x.1+y.1)),()),by simp[ho],fun j v hj hv=>?_,rfl,rfl⟩
   rw[List.getElem?_set]at hv
   split at hv
   .rename_i e
    subst e
    split at hv
    .simp at hv;subst hv;exact Bx1 _
    .cases hv
   .exact hb j v zq0 hv)
  (by
   rintro d1 d2 ⟨out,ho,hb,rfl,rfl⟩
   unfold Ig Ib
   simp only[Af,Ah,Aa,Ak]
   rw[Bt zq0,Ao]
   refine⟨_,_,rfl,rfl,rfl,ho,?_⟩
   rw[Age]
   intro j x hx
   exact hb j x (by have:=(List.getElem?_eq_some_iff.1 hx).1;dsimp only at this;omega) hx)
  (d1:=(h,h,l,(l.length:Int),(0:Int),())) (d2:=(h,h,l,(0:Int),())) ⟨h,hh,fun j x hj=>by omega,rfl,rfl⟩
 obtain⟨rfl,hq1,hq2⟩:=hq
 exact⟨o1.1,hq1,hq2,h1,h2⟩
theorem Anl (h:List YI) (b:List YB) (hh:h.length<=1073741824) (hb:b.length<=4294967296):
  ∃r,Sv (h,()) (b,())=some (r,())/\Zz (h,()) (b,())=some (r,())/\r.length=h.length/\(Gw h=true->Gw r=true):=by
 obtain⟨w,hw1,hw2,hw3⟩:=Ble b hb
 unfold Sv Zl Zz Xs
 simp only[Af,Ah,Aa,Ak,List.nil_append,List.length_nil,Nat.zero_add]
 rw[Ai zq0,Ay,Ay,At8 _ _ zq0,Bq5 _ zq0,Ac,Ac]
 cases hwb:(Gw h && ((h.length:Int)==8))with
 |false=>exact⟨h,rfl,rfl,rfl,id⟩
 |true=>
  have hlen:h.length=8:=by simp at hwb;omega
  have hwd:Gw h=true:=by simp at hwb;exact hwb.1
  simp only[Bool.not_true,Ao]
  by_cases hb64:b.length=64
  .rw[C4 (by simp[hb64]),C4 (by simp[hb64]),hw1,hw2,Bx3]
   simp only[Ac]
   match h,hlen with
   |[x0,x1,x2,x3,x4,x5,x6,x7],_=>
    simp only[show idx [x0,x1,x2,x3,x4,x5,x6,x7] (0:Int)=some x0 from rfl,show idx [x0,x1,x2,x3,x4,x5,x6,x7] (1:Int)=some x1 from rfl,show idx [x0,x1,x2,x3,x4,x5,x6,x7] (2:Int)=some x2 from rfl,show idx [x0,x1,x2,x3,x4,x5,x6,x7] (3:Int)=some x3 from rfl,
     show idx [x0,x1,x2,x3,x4,x5,x6,x7] (4:Int)=some x4 from rfl,show idx [x0,x1,x2,x3,x4,x5,x6,x7] (5:Int)=some x5 from rfl,show idx [x0,x1,x2,x3,x4,x5,x6,x7] (6:Int)=some x6 from rfl,show idx [x0,x1,x2,x3,x4,x5,x6,x7] (7:Int)=some x7 from rfl,Ac]
    obtain⟨a',b',c',d',e',f',g',z',q1,q2⟩:=Bq7 [x0,x1,x2,x3,x4,x5,x6,x7] [x0,x1,x2,x3,x4,x5,x6,x7] w (hw3 hb64) x0.1 x1.1 x2.1 x3.1 x4.1 x5.1 x6.1 x7.1
    rw[q1,q2]
    simp only[Ac]
    obtain⟨r,r1,r2,r3,r4⟩:=Bvi [x0,x1,x2,x3,x4,x5,x6,x7] [(a',()),(b',()),(c',()),(d',()),(e',()),(f',()),(g',()),(z',())] rfl rfl
    rw[r3,r4]
    exact⟨r,rfl,rfl,r1,fun _=>r2⟩
  .have h': ¬((b.length:Int)=64):=by omega
   rw[Dv (by simpa using h'),Dv (by simpa using h')]
   exact⟨h,rfl,rfl,rfl,id⟩
def Ke (h:List YI) (b:List YB):List YI:=match Sv (h,()) (b,())with|some r=>r.1|none=>[]
theorem Bn7 (h:List YI) (b:List YB) (hh:h.length<=1073741824) (hb:b.length<=4294967296):Sv (h,()) (b,())=some (Ke h b,()):=by
 obtain⟨r,h1,h2,_⟩:=Anl h b hh hb
 unfold Ke;rw[h1]
theorem Bn8 (h:List YI) (b:List YB) (hh:h.length<=1073741824) (hb:b.length<=4294967296):Zz (h,()) (b,())=some (Ke h b,()):=by
 obtain⟨r,h1,h2,_⟩:=Anl h b hh hb
 unfold Ke;rw[h1,h2]
theorem Ai7 (h:List YI) (b:List YB) (hh:h.length<=1073741824) (hb:b.length<=4294967296):(Ke h b).length=h.length/\(Gw h=true->Gw (Ke h b)=true):=by
 obtain⟨r,h1,h2,h3,h4⟩:=Anl h b hh hb
 unfold Ke;rw[h1];exact⟨h3,h4⟩
def Ix (h:List YI) (b:List YB):List YI×List YB:=if 64<=b.length then Ix (Ke h (b.take 64)) (b.drop 64)else(h,b)
termination_by b.length
decreasing_by simp;omega
theorem Ad2 {h:List YI} {b:List YB} (hb:64<=b.length):Ix h b=Ix (Ke h (b.take 64)) (b.drop 64):=by rw[Ix,if_pos hb]
theorem Pa {h:List YI} {b:List YB} (hb: ¬64<=b.length):Ix h b=(h,b):=by rw[Ix,if_neg hb]
theorem Btm: ∀(n:Nat) (h:List YI) (b p:List YB),b.length<=n->Ix h (b++p)=Ix (Ix h b).1 ((Ix h b).2++p):=by
 intro n
 induction n with
 |zero=>intro h b p hn;rw[Pa (b:=b) zq0]
 |succ n ih=>
  intro h b p hn
  by_cases hb:64<=b.length
  .rw[Ad2 (b:=b) hb,Ad2 (b:=b++p) zq1,List.take_append_of_le_length hb,List.drop_append_of_le_length hb]
   exact ih _ _ _ zq1
  .rw[Pa (b:=b) hb]
theorem Apj: ∀(n:Nat) (h:List YI) (b:List YB),b.length<=n->h.length<=1073741824->(Ix h b).2.length=b.length%64/\(Ix h b).1.length=h.length/\(Gw h=true->Gw (Ix h b).1=true):=by
 intro n
 induction n with
 |zero=>intro h b hn hh;rw[Pa zq0];exact⟨by simp;omega,rfl,id⟩
 |succ n ih=>
  intro h b hn hh
  by_cases hb:64<=b.length
  .rw[Ad2 hb]
   have hc:=Ai7 h (b.take 64) hh zq1
   obtain⟨h1,h2,h3⟩:=ih (Ke h (b.take 64)) (b.drop 64) zq1 zq0
   refine⟨?_,by omega,fun hw=>h3 (hc.2 hw)⟩
   rw[h1,List.length_drop];omega
  .rw[Pa hb];exact⟨by simp only;omega,rfl,id⟩
theorem Awn (h:List YI) (b:List YB) (hh:h.length<=1073741824) (hb:b.length<=4294967296):Rh (h,()) (b,())=some (((Ix h b).1,()),((Ix h b).2,())):=by
 have key: ∀(n:Nat) (h:List YI) (b:List YB),b.length<=n->h.length<=1073741824->b.length<=4294967296->A0 Hh (h,b,())=some ((Ix h b).1,(Ix h b).2,()):=by
  intro n
  induction n with
  |zero=>
   intro h b hn hh hb
   rw[Pa zq0,Eo]
   unfold Hh
   simp only[Af,Ak,Ah,Aa]
   rw[Bt zq0,Ao]
  |succ n ih=>
   intro h b hn hh hb
   rw[Eo]
   by_cases h64:64<=b.length
   .have hB:Hh (h,b,())=some (.inl (Ke h (b.take 64),b.drop 64,())):=by
     unfold Hh
     simp only[Af,Ak,Ah,Aa]
     rw[Ai zq0,A6,Ai zq0]
     simp only[Ay,show(64:Int).toNat=64 from rfl,show(0:Int).toNat=0 from rfl,List.drop_zero,Int.toNat_natCast,List.take_length]
     rw[Bn7 _ _ hh zq1,Ac]
    have hc:=Ai7 h (b.take 64) hh zq1
    rw[hB,Ad2 h64,<-ih (Ke h (b.take 64)) (b.drop 64) zq1 zq0 zq1]
   .unfold Hh
    simp only[Af,Ak,Ah,Aa]
    rw[Bt zq0,Ao,Pa h64]
 unfold Rh Zn
 simp only[Ah,Aa]
 rw[key _ h b (Nat.le_refl _) hh hb]
 rfl
theorem Bq8 (all:List YB) (ha:all.length<=4294967296): ∀(n i:Nat) (h:List YI),all.length-i<=n->i<=all.length->(all.length-i)%64=0->h.length<=1073741824->A0 W4 (all,h,(i:Int),())=some ((Ix h (all.drop i)).1,()):=by
 intro n
 induction n with
 |zero=>
  intro i h hn hi hm hh
  rw[Pa zq1,Eo]
  unfold W4
  simp only[Af,Ak,Ah,Aa]
  rw[Bt zq0,Ao]
 |succ n ih=>
  intro i h hn hi hm hh
  rw[Eo]
  unfold W4
  simp only[Af,Ak,Ah,Aa]
  by_cases h64:i<all.length
  .rw[Ai zq0,A6,Ai zq0,Ay,w64 (n:=(i:Int)+64) zq0,Ai zq0,Ay,Ai zq0,Ay]
   have e:(all.take ((i:Int)+64).toNat).drop ((i:Int)).toNat=(all.drop i).take 64:=by
    rw[show((i:Int)+64).toNat=i+64 by omega,Int.toNat_natCast,List.drop_take,Nat.add_sub_cancel_left]
   rw[e,Bn8 _ _ hh zq1,Ac]
   simp only
   have hc:=Ai7 h ((all.drop i).take 64) hh zq1
   rw[Ad2 (b:=all.drop i) zq1,List.drop_drop,show(i:Int)+64=((i+64:Nat):Int) by omega]
   exact ih (i+64) _ zq0 zq0 zq0 zq0
  .rw[Bt zq0,Ao,Pa zq1]
theorem Bhp (m:Int) (j:Nat) (h0:0<=m) (h1:m<4294967296) (hj:4<=j) (hj2:j<=7):byt m j=((0:Int),()):=by
 have e:Int.fdiv m (2^(min (8*j) IntKind.i64.bits))=0:=by
  have hp:(4294967296:Int)<=2^(min (8*j) IntKind.i64.bits):=by
   have:j=4\/j=5\/j=6\/j=7:=by omega
   rcases this with rfl|rfl|rfl|rfl<;>decide
  rw[Int.fdiv_eq_ediv_of_nonneg _ zq0]
  exact Int.ediv_eq_zero_of_lt h0 zq0
 unfold byt
 rw[e];rfl
def Anm (n:Nat):Nat:=(64-(n+9)%64)%64
def Ab0 (n:Nat):List YB:=(((128:Int),())::List.replicate (Anm n) ((0:Int),()))++([((0:Int),()),((0:Int),())]++F9 (8*(n:Int)) 6 6)
theorem Bhq (n:Nat):(Ab0 n).length=Anm n+9:=by simp[Ab0,Fi]
theorem Bmi (n:Nat) (h:n<=1048576):A0 Si ((n:Int),[((128:Int),())],())=some ((n:Int),((128:Int),())::List.replicate (Anm n) ((0:Int),()),()):=by
 have hk:Anm n=(64-(n+9)%64)%64:=rfl
 refine Cs (B:=Si) (Anm n) (fun i=>((n:Int),((128:Int),())::List.replicate i ((0:Int),()),())) _ (fun i hi=>?_) ?_
 .unfold Si
  simp only[Af,Ak,Aa,List.length_cons,List.length_replicate]
  rw[w64 (n:=(n:Int)+((i+1:Nat):Int)) zq0,w64 zq0,Ai zq0,Ay,Dv zq1,Ai zq1,Ay,List.cons_append,<-List.replicate_succ']
 .unfold Si
  simp only[Af,Ak,Aa,List.length_cons,List.length_replicate]
  rw[w64 (n:=(n:Int)+((Anm n+1:Nat):Int)) zq0,w64 zq0,Ai zq0,Ay,C4 zq1]
theorem Bx5 (n:Nat) (h:n<=1048576):Ba6 ((n:Int),())=some (Ab0 n,()):=by
 have hk:Anm n<64:=Nat.mod_lt _ zq0
 unfold Ba6 Ban
 simp only[Af,Ak,Ah,Aa,Cm,Ac]
 rw[C4 zq8,Bmi n h,Ac,Ai zq1,Ay,w64 zq0,Bbd _ _ zq1,Ac]
 unfold Ab0
 simp
theorem Bx6 (n:Nat) (h:n<=1048576):Ba4 ((n:Int),())=some (Ab0 n,()):=by
 have hk:Anm n<64:=Nat.mod_lt _ zq0
 unfold Ba4 A93
 simp only[Af,Ak,Ah,Aa,Ac]
 rw[Bt zq0,Ao,Bt zq0,Ao,show Awx=Si from rfl,Bmi n h,Ac,Lo _ _ zq1,Ac,Lo _ _ zq4,Ac,w64 zq0]
 unfold Ab0
 have e0:F9 0 4 4=[((0:Int),()),((0:Int),()),((0:Int),()),((0:Int),())]:=by
  unfold F9
  simp only[show List.range 4=[0,1,2,3]from rfl,List.map]
  rfl
 have e6:F9 (8*(n:Int)) 6 6=[((0:Int),()),((0:Int),())]++F9 (8*(n:Int)) 4 4:=by
  have a:=Bhp (8*(n:Int)) 5 zq0 zq0 zq0 zq0
  have b:=Bhp (8*(n:Int)) 4 zq0 zq0 zq0 zq0
  unfold F9
  simp only[show List.range 4=[0,1,2,3]from rfl,show List.range 6=[0,1,2,3,4,5]from rfl,List.map]
  rw[show 6-1-0=5 from rfl,show 6-1-1=4 from rfl,a,b]
  rfl
 rw[e0,e6]
 simp
def Ab1 (l:List YI):List YB:=l.flatMap fun x=>F9 x.1 4 4
theorem Aue (l:List YI):(Ab1 l).length=4*l.length:=by
 unfold Ab1
 induction l with
 |nil=>rfl
 |cons x r ih=>simp only[List.flatMap_cons,List.length_append,Fi,ih,List.length_cons];omega
theorem Bdm (l:List YI) (x:YI):Ab1 (l++[x])=Ab1 l++F9 x.1 4 4:=by simp[Ab1]
theorem Blg (l:List YI) (h:l.length<=1048576):Afb (l,())=some (Ab1 l,()):=by
 have hr:=Cs (B:=J4) l.length (fun i=>(Ab1 (l.take i),l,(l.length:Int),(i:Int),())) (Ab1 l,())
  (fun i hi=>by
   have hx:=List.getElem?_eq_getElem hi
   unfold J4
   simp only[Af,Ah,Aa,Dh hi,A6,B8 hx,Ac]
   rw[Ov _ _ (by rw[Aue];simp;omega),Ac,w64 zq0,<-Ff hx,Bdm]
   rfl)
  (by unfold J4;simp only[Af,Aa,Di,Ao,List.take_length])
 unfold Afb Aev
 simp only[Ah,Aa]
 rw[show A0 J4 ([],l,(l.length:Int),(0:Int),())=_ from hr]
 rfl
theorem Bvj (l:List YI) (h:l.length=8):Azd (l,())=some (Ab1 l,()):=by
 have hr:=Cs (B:=Qw) 8 (fun i=>(l,Ab1 (l.take i),(i:Int),())) (Ab1 l,())
  (fun i hi=>by
   have hx:=List.getElem?_eq_getElem (show i<l.length by omega)
   unfold Qw
   simp only[Af,Ah,Aa]
   rw[Ai zq0,A6,B8 hx,Ac,Lo _ _ (by rw[Aue];simp;omega),Ac,w64 zq0,<-Ff hx,Bdm]
   rfl)
  (by unfold Qw;simp only[Af,Aa];rw[Bt zq0,Ao,<-h,List.take_length])
 unfold Azd Aw0
 simp only[Ah,Aa]
 rw[show A0 Qw (l,[],(0:Int),())=_ from hr]
 rfl
def Gx:List YI:=[((1779033703:Int),()),((3144134277:Int),()),((1013904242:Int),()),((2773480762:Int),()),((1359893119:Int),()),((2600822924:Int),()),((528734635:Int),()),((1541459225:Int),())]
theorem Bq9:Gw Gx=true:=by decide
def Azu (h:Rg):Bool:=(Gw h.1 && ((h.1.length:Int)==8)) && (inR h.2.2.1 0 1048576 && ((h.2.2.1%64)==(h.2.1.length:Int)))
theorem Bhr (h:Rg) (hl:h.1.length<=4294967296):Af4 h=some (Azu h,()):=by
 unfold Af4 Asi Azu
 simp only[Af,Ak,Ah,Aa,Cm,Ac]
 rw[At8 _ _ hl,Ac]
 cases (Gw h.1 && ((h.1.length:Int)==8))with
 |false=>rfl
 |true=>
  cases hn:inR h.2.2.1 0 1048576 with
  |false=>rfl
  |true=>
   have:=Bx.1 hn
   simp only[A6]
   rw[Ai zq0,Ay]
   simp
def sha (b:List YB):List YB:=if b.length<=1048576 then Ab1 (Ix Gx (b++Ab0 b.length)).1 else []
theorem Bmj (b:List YB):(sha b).length=32\/(sha b).length=0:=by
 unfold sha
 split
 .left
  rw[Aue,(Apj _ Gx _ (Nat.le_refl _) zq7).2.1];rfl
 .right;rfl
theorem Bn9 (b:List YB):Ao6 (b,())=some (sha b,()):=by
 unfold Ao6 A97 sha
 simp only[Af,Ak,Ah,Aa,List.nil_append,List.length_nil,Nat.zero_add]
 by_cases h:b.length<=1048576
 .have hp:=Bhq b.length
  have hk:Anm b.length=(64-(b.length+9)%64)%64:=rfl
  have hl:=Bq8 (b++Ab0 b.length) zq1 (b++Ab0 b.length).length 0 Gx zq0 zq0 zq1 zq7
  rw[List.drop_zero]at hl
  rw[Bt zq0,Ao,Ai zq0,Ay,Bx6 _ h,Ac,Ai zq1,Ay,show Bdg=some (Gx,())from rfl,Ac]
  rw[show A0 W4 (b++Ab0 b.length,Gx,(0:Int),())=_ from hl,Ac]
  rw[Bvj _ ((Apj _ Gx _ (Nat.le_refl _) zq7).2.1),if_pos h]
  rfl
 .rw[Ai zq0,A6,if_neg h]
theorem Boa (b:List YB) (hb:b.length<=4294967296):Ao7 (b,())=some (sha b,()):=by
 unfold Ao7 Baq sha
 simp only[Af,Ah,Aa]
 by_cases h:b.length<=1048576
 .have hp:=Bhq b.length
  have hk:Anm b.length=(64-(b.length+9)%64)%64:=rfl
  have hc:=Apj _ Gx b (Nat.le_refl _) zq7
  have h8:Gx.length=8:=rfl
  have hc21:=hc.2.1
  have hc1:=hc.1
  have e1:Anb (Gx,[],0,()) (b,())=some ((Ix Gx b).1,(Ix Gx b).2,(b.length:Int),()):=by
   unfold Anb Amm
   simp only[Af,Ak,Ah,Aa,List.nil_append,List.length_nil,Nat.zero_add]
   rw[Bhr _ zq7,Ac,show Azu (Gx,[],0,())=true by decide]
   simp only[Bool.not_true,Ao]
   rw[w64 (n:=1048576-0) zq0,Bt zq0,Ao,Hv _ zq5 zq3,Ac,show cat [([],()),(b,())]=b by simp[cat],Awn _ _ zq7 zq0,Ac]
   simp only
   rw[Ai zq0,Ay,Cb _ zq2,Ac,w64 zq0]
   simp
  have e2:Anc ((Ix Gx b).1,(Ix Gx b).2,(b.length:Int),())=some (Ab1 (Ix Gx (b++Ab0 b.length)).1,()):=by
   unfold Anc Amn
   simp only[Af,Ak,Ah,Aa]
   rw[Bhr _ (by dsimp only;rw[hc.2.1];decide),Ac]
   have ok:Azu ((Ix Gx b).1,(Ix Gx b).2,(b.length:Int),())=true:=by
    unfold Azu
    simp only[hc.2.2 Bq9,hc.2.1,Bool.and_eq_true]
    refine⟨by decide,Bx.2 zq0,?_⟩
    rw[hc.1];simp
   rw[ok]
   simp only[Bool.not_true,Ao]
   rw[Bx5 _ h,Ac,Hv _ zq5 zq3,Ac,show cat [((Ix Gx b).2,()),(Ab0 b.length,())]=(Ix Gx b).2++Ab0 b.length by simp[cat],Awn _ _ (by rw[hc.2.1];decide) zq1,Ac,<-Btm _ _ _ _ (Nat.le_refl _)]
   simp only
   rw[Blg _ (by rw[(Apj _ Gx _ (Nat.le_refl _) zq7).2.1];decide)]
   rfl
  rw[Bt zq0,Ao,show A26=some (Gx,[],0,())from rfl,Ac,e1,Ac,e2,Ac,if_pos h]
 .rw[Ai zq0,A6,if_neg h]
theorem Bwz (b:List YB) (h:b.length<=1048576):(sha b).length=32:=by
 unfold sha
 rw[if_pos h,Aue,(Apj _ Gx _ (Nat.le_refl _) zq7).2.1];rfl
theorem Apk (b:List YB):(sha b).length<=32:=by rcases Bmj b with h|h<;>omega
def Azv (k:List YB):List YB:=k++List.replicate (64-k.length) ((0:Int),())
def Gy (k:List YB):List YB:=Azv (if k.length>64 then sha k else k)
theorem A1a (k:List YB) (h:k.length<=64):A0 Hx (k,())=some (Azv k,()):=by
 have hr:=Cs (B:=Hx) (64-k.length) (fun i=>(k++List.replicate i ((0:Int),()),())) (Azv k,())
  (fun i hi=>by
   unfold Hx
   simp only[Af,Ak,Aa]
   rw[Ai zq1,A6,Ai zq1,Ay,List.append_assoc,<-List.replicate_succ'])
  (by
   unfold Hx
   simp only[Af,Ak,Aa]
   rw[Bt zq1,Ao];rfl)
 simpa using hr
theorem Bob (k:List YB) (h:k.length<=64):(Azv k).length=64:=by unfold Azv;simp;omega
theorem Ai8 (k:List YB):(Gy k).length=64:=by
 unfold Gy
 refine Bob _ ?_
 split
 .have:=Apk k;omega
 .omega
theorem Boc (k:List YB) (h:k.length<=1048576):Aiw (k,())=some (Gy k,()):=by
 unfold Aiw Ah0 Gy
 simp only[Af,Ah,Aa]
 rw[Bt zq0,Ao,Cb _ zq2,Ac]
 by_cases h1:k.length>64
 .have:=Apk k
  rw[Ai zq0,A6,Boa _ zq0,Ac,A1a _ zq0,if_pos h1];rfl
 .rw[Bt zq0,Ao,A1a _ zq0,if_neg h1];rfl
theorem Bod (k:List YB) (h:k.length<=1048576):Aim (k,())=some (Gy k,()):=by
 unfold Aim Ag3 Gy
 simp only[Af,Ah,Aa,Ak,List.nil_append,List.length_nil,Nat.zero_add]
 rw[Bt zq0,Ao,Ai zq0,Ay,show To=Hx from rfl]
 by_cases h1:k.length>64
 .have:=Apk k
  rw[Ai zq0,A6,Bn9,Ac,A1a _ zq0,if_pos h1];rfl
 .rw[Bt zq0,Ao,A1a _ zq0,if_neg h1];rfl
def A5j (x c:Int):YB:=(IntKind.u8.wrap ((BitVec.ofInt (IntKind.u8.bits) x ^^^ BitVec.ofInt (IntKind.u8.bits) c).toNat:Nat),())
def Gf (k:List YB) (c:Int):List YB:=k.map fun x=>A5j x.1 c
theorem At6 (k:List YB) (c:Int):(Gf k c).length=k.length:=by simp[Gf]
theorem Ann (k:List YB) (x:YB) (c:Int):Gf (k++[x]) c=Gf k c++[A5j x.1 c]:=by simp[Gf]
theorem Bhs (k:List YB) (c:Int) (h:k.length<=1048576):Af5 (k,()) (c,())=some (Gf k c,()):=by
 have hr:=Cs (B:=Og) k.length (fun i=>(c,Gf (k.take i) c,k,(k.length:Int),(i:Int),())) (Gf k c,())
  (fun i hi=>by
   have hx:=List.getElem?_eq_getElem hi
   unfold Og
   simp only[Af,Ah,Aa,Ak,Dh hi,A6,B8 hx,Ac]
   rw[Ai zq9,Ay,w64 zq0,<-Ff hx,Ann]
   rfl)
  (by unfold Og;simp only[Af,Aa,Di,Ao,List.take_length])
 unfold Af5 Asj
 simp only[Ah,Aa]
 rw[show A0 Og (c,[],k,(k.length:Int),(0:Int),())=_ from hr]
 rfl
theorem Bvk (m k:List YB) (h:k.length=64):A0 Tp (m,k,[],[],(0:Int),())=some (m,Gf k 54,Gf k 92,()):=by
 have hr:=Cs (B:=Tp) 64 (fun i=>(m,k,Gf (k.take i) 54,Gf (k.take i) 92,(i:Int),())) (m,Gf k 54,Gf k 92,())
  (fun i hi=>by
   have hx:=List.getElem?_eq_getElem (show i<k.length by omega)
   unfold Tp
   simp only[Af,Ah,Aa,Ak]
   rw[Ai zq0,A6,B8 hx]
   simp only[Ac]
   rw[Ai zq9,Ay,Ai zq9,Ay,w64 zq0,<-Ff hx,Ann,Ann]
   rfl)
  (by unfold Tp;simp only[Af,Aa,Ah,Ak];rw[Bt zq0,Ao,<-h,List.take_length])
 exact hr
def H6 (k m:List YB):List YB:=if k.length>1048576 then []else if m.length>1048512 then []else sha (Gf (Gy k) 92++sha (Gf (Gy k) 54++m))
theorem Apl (k m:List YB):Wm (k,()) (m,())=some (H6 k m,()):=by
 have hb:=Ai8 k
 unfold Wm A4n H6
 simp only[Af,Ah,Aa]
 by_cases h1:k.length>1048576
 .rw[Ai zq0,A6,if_pos h1]
 rw[Bt zq0,Ao,if_neg h1]
 by_cases h2:m.length>1048512
 .rw[Ai zq0,A6,if_pos h2]
 have hs:=Apk (Gf (Gy k) 54++m)
 rw[Bt zq0,Ao,if_neg h2,Boc _ zq0,Ac,Bhs _ _ zq0,Ac,Bhs _ _ zq0,Ac,Hv _ (by simp[cat,At6];omega) zq3,Ac,
  show cat [(Gf (Gy k) 54,()),(m,())]=Gf (Gy k) 54++m by simp[cat],Boa _ zq9,Ac,Hv _ (by simp[cat,At6];omega) zq3,Ac,
  show cat [(Gf (Gy k) 92,()),(sha (Gf (Gy k) 54++m),())]=Gf (Gy k) 92++sha (Gf (Gy k) 54++m) by simp[cat],Boa _ zq9,Ac]
theorem Apm (k m:List YB):Wh (k,()) (m,())=some (H6 k m,()):=by
 have hb:=Ai8 k
 unfold Wh A32 H6
 simp only[Af,Ah,Aa,Ak]
 by_cases h1:k.length>1048576
 .rw[Ai zq0,A6,if_pos h1]
 rw[Bt zq0,Ao,if_neg h1]
 by_cases h2:m.length>1048512
 .rw[Ai zq0,A6,if_pos h2]
 have hs:=Apk (Gf (Gy k) 54++m)
 rw[Bt zq0,Ao,if_neg h2,Bod _ zq0,Ac,Bvk _ _ hb,Ac]
 simp only
 rw[Ai zq9,Ay,Bn9,Ac,Ai zq9,Ay,Bn9,Ac]
theorem Auf (k m:List YB):(H6 k m).length=32\/(H6 k m).length=0:=by
 unfold H6
 split
 .exact .inr rfl
 split
 .exact .inr rfl
 exact Bmj _
theorem Rc (k m:List YB) (h1:k.length<=1048576) (h2:m.length<=1048512):(H6 k m).length=32:=by
 have hb:=Ai8 k
 have hs:=Apk (Gf (Gy k) 54++m)
 unfold H6
 rw[if_neg zq0,if_neg zq0]
 exact Bwz _ zq9
def Ur (k m:List YB):List YB:=(H6 k m).take 16
theorem Bf1 (k m:List YB):Agm (k,()) (m,())=some (Ur k m,()):=by
 unfold Agm Bar Ur
 simp only[Af,Ah,Aa,Ak,Apl,Ac]
 rcases Auf k m with h|h
 .rw[C4 (by simp[h]),Ai zq0,Ay]
  simp only[show(16:Int).toNat=16 from rfl,show(0:Int).toNat=0 from rfl,List.drop_zero]
  rw[Cb _ zq1,Ac]
 .rw[Dv (by simp[h]),List.eq_nil_of_length_eq_zero h];rfl
theorem Bf2 (k m:List YB):Agl (k,()) (m,())=some (Ur k m,()):=by
 unfold Agl Bac Ur
 simp only[Af,Ah,Aa,Ak,Apm,Ac,List.nil_append,List.length_nil,Nat.zero_add]
 rcases Auf k m with h|h
 .rw[Bt zq0,Ao,Ai zq0,Ay]
  simp only[show(16:Int).toNat=16 from rfl,show(0:Int).toNat=0 from rfl,List.drop_zero]
  rw[Ai zq1,Ay]
 .rw[Ai zq0,A6,List.eq_nil_of_length_eq_zero h];rfl
theorem Bmk (k m:List YB):(Ur k m).length<=16:=by unfold Ur;simp;omega
def Xb (k n:List YB) (i:Int):List YB:=if inR i 0 6=true/\n.length<=100 then H6 k ((((115:Int),())::n)++F9 i 4 4)else []
theorem Bra (k n:List YB) (i:Int):Anf (k,()) (n,()) (i,())=some (Xb k n i,()):=by
 unfold Anf Amu Xb
 simp only[Af,Ah,Aa,Cm,Ac]
 cases hi:inR i 0 6 with
 |false=>simp[br]
 |true=>
  simp only[Bool.not_true,Ao]
  by_cases hn:n.length<=100
  .rw[Bt zq0,Ao,Hv _ zq5 zq3,Ac,show cat [([((115:Int),())],()),(n,())]=((115:Int),())::n by simp[cat],Ov _ _ zq1,Ac,Apl,Ac,if_pos ⟨trivial,hn⟩]
  .rw[Ai zq0,A6,if_neg (fun h=>hn h.2)]
theorem Brb (k n:List YB) (i:Int):Ana (k,()) (n,()) (i,())=some (Xb k n i,()):=by
 unfold Ana Ame Xb
 simp only[Af,Ah,Aa,Ak,Cy,Ac]
 cases hi:inR i 0 6 with
 |false=>simp[br]
 |true=>
  simp only[Bool.not_true,Ao]
  by_cases hn:n.length<=100
  .rw[Bt zq0,Ao,Ai zq1,Ay,Lo _ _ zq1,Ac,Apm,Ac,if_pos ⟨trivial,hn⟩];rfl
  .rw[Ai zq0,A6,if_neg (fun h=>hn h.2)]
theorem Aug (k n:List YB) (i:Int) (h0:0<=i) (h1:i<=6) (hn:n.length<=100) (hk:k.length<=1048576):(Xb k n i).length=32:=by
 unfold Xb
 rw[if_pos ⟨Bx.2 ⟨h0,h1⟩,hn⟩]
 exact Rc _ _ hk zq4
def blocks (k n:List YB) (i:Nat):List YB:=(List.range i).flatMap fun(j:Nat)=>Xb k n (j:Int)
theorem Ano (k n:List YB) (i:Nat):blocks k n (i+1)=blocks k n i++Xb k n (i:Int):=by unfold blocks;rw[List.range_succ,List.flatMap_append];simp
theorem Aam (k n:List YB) (i:Nat) (h:i<=7) (hn:n.length<=100) (hk:k.length<=1048576):(blocks k n i).length=32*i:=by
 induction i with
 |zero=>rfl
 |succ i ih=>rw[Ano,List.length_append,ih zq0,Aug _ _ _ zq0 zq0 hn hk];omega
def Jr (k n:List YB) (m:Nat):List YB:=(blocks k n ((m+31)/32)).take m
theorem A8x (k n:List YB) (m:Nat) (hm:m<=200) (hn:n.length<=100) (hk:k.length<=1048576):(Jr k n m).length=m:=by
 unfold Jr
 rw[List.length_take,Aam _ _ _ zq0 hn hk];omega
theorem Btn (k n:List YB) (m:Nat) (hm:m<=200) (hn:n.length<=100) (hk:k.length<=1048576):Aty (k,()) (n,()) ((m:Int),())=some (Jr k n m,()):=by
 have hbl:=Aam k n ((m+31)/32) zq0 hn hk
 have hr:=Cs (B:=Oi) ((m+31)/32) (fun i=>(k,n,(m:Int),blocks k n i,(i:Int),())) ((m:Int),blocks k n ((m+31)/32),())
  (fun i hi=>by
   have hl:=Aam k n i zq0 hn hk
   have hl2:=Aug k n (i:Int) zq0 zq0 hn hk
   unfold Oi
   simp only[Af,Ah,Aa,Ak]
   rw[Ai zq0,A6,Bra,Ac,Ai zq2,Ay,w64 zq0,Ano]
   rfl)
  (by
   unfold Oi
   simp only[Af,Ah,Aa,Ak]
   rw[Bt zq0,Ao])
 unfold Aty Asr
 simp only[Af,Ah,Aa,Ak,Cm,Ac]
 rw[C4 zq8,Bt zq0,Ao,Bt zq0,Ao,show A0 Oi (k,n,(m:Int),[],(0:Int),())=_ from hr,Ac]
 simp only[Int.toNat_natCast,show(0:Int).toNat=0 from rfl,List.drop_zero]
 rw[Ai zq0,Ay,Ai zq0,Ay,Cb _ zq1,Ac]
 rfl
theorem Bto (k n:List YB) (m:Nat) (hm:m<=200) (hn:n.length<=100) (hk:k.length<=1048576):Atq (k,()) (n,()) ((m:Int),())=some (Jr k n m,()):=by
 have hbl:=Aam k n ((m+31)/32) zq0 hn hk
 have hr:=Cs (B:=Oa) ((m+31)/32) (fun i=>(k,n,(m:Int),blocks k n i,(i:Int),())) ((m:Int),blocks k n ((m+31)/32),())
  (fun i hi=>by
   have hl:=Aam k n i zq0 hn hk
   have hl2:=Aug k n (i:Int) zq0 zq0 hn hk
   unfold Oa
   simp only[Af,Ah,Aa,Ak]
   rw[Ai zq0,A6,Brb,Ac,Ai zq2,Ay,w64 zq0,Ano]
   rfl)
  (by
   unfold Oa
   simp only[Af,Ah,Aa,Ak]
   rw[Bt zq0,Ao])
 unfold Atq Arq
 simp only[Af,Ah,Aa,Ak,Cy,Ac]
 rw[C4 zq8,Bt zq0,Ao,Bt zq0,Ao,show A0 Oa (k,n,(m:Int),[],(0:Int),())=_ from hr,Ac]
 simp only[Int.toNat_natCast,show(0:Int).toNat=0 from rfl,List.drop_zero,List.nil_append,List.length_nil,Nat.zero_add]
 rw[Ai zq0,Ay,Ai zq0,Ay,Ai zq1,Ay]
 rfl
def Ai9 (st p:List YB) (i:Nat):List YB:=(List.range i).map fun j=>A5j (st[j]?.getD (0,())).1 (p[j]?.getD (0,())).1
theorem Bdn (st p:List YB) (i:Nat):Ai9 st p (i+1)=Ai9 st p i++[A5j (st[i]?.getD (0,())).1 (p[i]?.getD (0,())).1]:=by unfold Ai9;rw[List.range_succ,List.map_append];rfl
theorem Auh (st p:List YB) (i:Nat):(Ai9 st p i).length=i:=by simp[Ai9]
def mix (k n p:List YB):List YB:=if p.length<=200/\n.length<=100/\k.length<=1048576 then Ai9 (Jr k n p.length) p p.length else []
theorem Azw (k n p:List YB):(mix k n p).length<=p.length:=by
 unfold mix
 split
 .rw[Auh];exact Nat.le_refl _
 .simp
theorem Bvb (k n p:List YB):A07 (k,()) (n,()) (p,())=some (mix k n p,()):=by
 unfold A07 Bat mix
 simp only[Af,Ah,Aa]
 by_cases h1:p.length<=200
 .rw[Bt zq0,Ao]
  by_cases h2:n.length<=100
  .rw[Bt zq0,Ao]
   by_cases h3:k.length<=1048576
   .have hs:=A8x k n p.length h1 h2 h3
    have hr:=Cs (B:=W6) p.length (fun i=>(p,Ai9 (Jr k n p.length) p i,Jr k n p.length,((Jr k n p.length).length:Int),(i:Int),())) (Ai9 (Jr k n p.length) p p.length,())
     (fun i hi=>by
      have hx:=List.getElem?_eq_getElem hi
      have hy:=List.getElem?_eq_getElem (show i<(Jr k n p.length).length by omega)
      unfold W6
      simp only[Af,Ah,Aa,Ak]
      rw[Ai zq0,A6,B8 hy,Ac,B8 hx,Ac,Ai (by simp[Auh];omega),Ay,w64 zq0,Bdn,hx,hy]
      rfl)
     (by
      unfold W6
      simp only[Af,Ah,Aa,Ak]
      rw[Bt zq0,Ao])
    rw[Bt zq0,Ao,Btn _ _ _ h1 h2 h3,Ac,if_pos ⟨h1,h2,h3⟩]
    simp only
    rw[show A0 W6 (p,[],Jr k n p.length,((Jr k n p.length).length:Int),(0:Int),())=_ from hr]
    rfl
   .rw[Ai zq0,A6,if_neg zq0]
  .rw[Ai zq0,A6,if_neg zq0]
 .rw[Ai zq0,A6,if_neg zq0]
theorem Brc (a b:Int):A5j a b=A5j b a:=by unfold A5j;rw[BitVec.xor_comm]
theorem Bvc (k n p:List YB):A06 (k,()) (n,()) (p,())=some (mix k n p,()):=by
 unfold A06 Baf mix
 simp only[Af,Ah,Aa]
 by_cases h1:p.length<=200
 .rw[Bt zq0,Ao]
  by_cases h2:n.length<=100
  .rw[Bt zq0,Ao]
   by_cases h3:k.length<=1048576
   .have hs:=A8x k n p.length h1 h2 h3
    have hr:=Cs (B:=W5) p.length (fun i=>(p,Ai9 (Jr k n p.length) p i,Jr k n p.length,(i:Int),())) (Ai9 (Jr k n p.length) p p.length,())
     (fun i hi=>by
      have hx:=List.getElem?_eq_getElem hi
      have hy:=List.getElem?_eq_getElem (show i<(Jr k n p.length).length by omega)
      unfold W5
      simp only[Af,Ah,Aa,Ak]
      rw[Ai zq0,A6,B8 hx,Ac,B8 hy,Ac,Ai (by simp[Auh];omega),Ay,w64 zq0,Bdn,hx,hy]
      rw[Brc]
      rfl)
     (by
      unfold W5
      simp only[Af,Ah,Aa,Ak]
      rw[Bt zq0,Ao])
    rw[Bt zq0,Ao,Bto _ _ _ h1 h2 h3,Ac,if_pos ⟨h1,h2,h3⟩]
    simp only
    rw[show A0 W5 (p,[],Jr k n p.length,(0:Int),())=_ from hr]
    rfl
   .rw[Ai zq0,A6,if_neg zq0]
  .rw[Ai zq0,A6,if_neg zq0]
 .rw[Ai zq0,A6,if_neg zq0]
def H1 (r:Int) (sn:List YB) (ep seq:Int):Bool:=inR r 0 1 && (((sn.length:Int)==12) && (inR ep 0 4294967295 && inR seq 0 281474976710655))
def Et (r:Int) (sn:List YB) (ep seq:Int):List YB:=bif H1 r sn ep seq then(IntKind.u8.wrap r,())::(sn++(F9 ep 4 4++F9 seq 6 6))else []
theorem A5k (r:Int) (sn:List YB) (ep seq:Int):Aaa (r,()) (sn,()) (ep,()) (seq,())=some (Et r sn ep seq,()):=by
 unfold Aaa Asq Et H1
 simp only[Af,Ah,Aa,Abx,Hz,Cm,Ac,Ago]
 cases inR r 0 1 with
 |false=>rfl
 |true=>
  cases hs:((sn.length:Int)==12)with
  |false=>rfl
  |true=>
   have hs':sn.length=12:=by simp at hs;omega
   cases inR ep 0 4294967295 with
   |false=>rfl
   |true=>
    cases inR seq 0 281474976710655 with
    |false=>rfl
    |true=>
     simp only[Bool.not_true,Ao,Bool.and_true,cond_true]
     rw[Ov _ _ zq3,Ac,Bbd _ _ zq3,Ac,Hv _ zq6 zq3,Ac]
     simp[cat]
theorem Aui (r:Int) (sn:List YB) (ep seq:Int):T7 (r,()) (sn,()) (ep,()) (seq,())=some (Et r sn ep seq,()):=by
 unfold T7 Arp Et H1
 simp only[Af,Ah,Aa,Ak,Cy,Ac,bne]
 cases inR r 0 1 with
 |false=>rfl
 |true=>
  cases hs:((sn.length:Int)==12)with
  |false=>rfl
  |true=>
   have hs':sn.length=12:=by simp at hs;omega
   cases inR ep 0 4294967295 with
   |false=>rfl
   |true=>
    cases inR seq 0 281474976710655 with
    |false=>rfl
    |true=>
     simp only[Bool.not_true,Ao,Bool.and_true,cond_true]
     rw[Ai zq1,Ay,Lo _ _ zq1,Ac,Bmg _ _ zq4,Ac]
     simp
theorem Pb (r:Int) (sn:List YB) (ep seq:Int):(Et r sn ep seq).length=(bif H1 r sn ep seq then 23 else 0):=by
 unfold Et
 cases h:H1 r sn ep seq with
 |false=>rfl
 |true=>
  unfold H1 at h
  simp at h
  have:sn.length=12:=by omega
  simp[Fi,this]
def D9 (r:Int) (f:Ap):List YB:=bif inR r 0 1 && (Bu f && inR f.1 4 8)then((116:Int),())::(Et r f.2.2.2.1 f.2.2.2.2.2.2.2.1 f.2.2.2.2.2.2.2.2.1++((IntKind.u8.wrap f.1,())::f.2.2.2.2.2.2.2.2.2.1))else []
theorem Ug (r:Int) (f:Ap) (h:Av f<=536870912):L3 (r,()) f=some (D9 r f,()):=by
 have hh:=Pb r f.2.2.2.1 f.2.2.2.2.2.2.2.1 f.2.2.2.2.2.2.2.2.1
 simp only[Av]at h
 unfold L3 Ah8 D9
 simp only[Af,Ah,Aa,Abx,Ws,Jq,Ac,Ago,A5k]
 cases inR r 0 1 with
 |false=>rfl
 |true=>
  cases inR f.1 4 8 with
  |false=>cases Bu f<;>rfl
  |true=>
   cases Bu f with
   |false=>rfl
   |true=>
    have hle:(Et r f.2.2.2.1 f.2.2.2.2.2.2.2.1 f.2.2.2.2.2.2.2.2.1).length<=23:=by rw[hh];cases H1 r f.2.2.2.1 f.2.2.2.2.2.2.2.1 f.2.2.2.2.2.2.2.2.1<;>simp
    simp only[Bool.not_true,Ao,Bool.and_true,cond_true]
    rw[Hv _ zq5 zq3,Ac]
    simp[cat]
theorem Aan (r:Int) (f:Ap) (h:Av f<=536870912):Ly (r,()) f=some (D9 r f,()):=by
 have hh:=Pb r f.2.2.2.1 f.2.2.2.2.2.2.2.1 f.2.2.2.2.2.2.2.2.1
 simp only[Av]at h
 unfold Ly Ahf D9
 simp only[Af,Ah,Aa,Ak,Cy,Wt,Jp,Ac,Aui]
 cases inR r 0 1 with
 |false=>rfl
 |true=>
  cases Bu f with
  |false=>rfl
  |true=>
   cases inR f.1 4 8 with
   |false=>rfl
   |true=>
    have hle:(Et r f.2.2.2.1 f.2.2.2.2.2.2.2.1 f.2.2.2.2.2.2.2.2.1).length<=23:=by rw[hh];cases H1 r f.2.2.2.1 f.2.2.2.2.2.2.2.1 f.2.2.2.2.2.2.2.2.1<;>simp
    simp only[Bool.not_true,Ao,Bool.and_true,cond_true]
    rw[Ai zq1,Ay,Ai zq1,Ay,Ai zq1,Ay]
    simp
def Qt:List YB:=List.replicate 16 ((0:Int),())
def Nc (k:List YB) (r:Int) (sn:List YB) (ep seq kind:Int) (p:List YB):Bool:=((k.length:Int)==32) && (H1 r sn ep seq && (inR kind 4 8 && Jo kind (p.length:Int)))
def H2:Ap:=(0,0,[],[],0,[],[],0,0,[],[],())
def Gz (k:List YB) (r:Int) (sn:List YB) (ep seq kind:Int) (p:List YB):Ap×(Bool×Unit):=
 bif Nc k r sn ep seq kind p then((kind,0,[],sn,0,[],[],ep,seq,mix k (Et r sn ep seq) p,Ur k (D9 r (kind,0,[],sn,0,[],[],ep,seq,mix k (Et r sn ep seq) p,Qt,())),()),(true,()))else(H2,(false,()))
theorem Bw0 (sn:List YB) (ep seq kind:Int) (p:List YB) (hk:inR kind 4 8=true):Bu (kind,0,[],sn,0,[],[],ep,seq,p,Qt,())=(((sn.length:Int)==12) && (inR ep 0 4294967295 && (inR seq 0 281474976710655 && Jo kind (p.length:Int)))):=by
 unfold Bu
 simp only[hk,cond_true]
 simp[Qt]
theorem Brd (k:List YB) (r:Int) (sn:List YB) (ep seq kind:Int) (p:List YB) (h1:sn.length<=67108864) (h2:p.length<=67108864):Aiz (k,()) (r,()) (sn,()) (ep,()) (seq,()) (kind,()) (p,())=some (Gz k r sn ep seq kind p):=by
 have hm:=Azw k (Et r sn ep seq) p
 unfold Aiz A4y Gz Nc H1
 simp only[Af,Ah,Aa]
 rw[Cb _ zq2,Ac,Cb _ zq2,Ac]
 simp only[Abx,Ws,Jq,Ac,Ago,bne]
 cases ((k.length:Int)==32)with
 |false=>rfl
 |true=>
  cases inR r 0 1 with
  |false=>rfl
  |true=>
   cases hk:inR kind 4 8 with
   |false=>simp[br];rfl
   |true=>
    simp only[Bool.not_true,Ao,Bool.true_and]
    rw[show List.replicate (16:Int).toNat ((0:Int),())=Qt from rfl,Bw0 sn ep seq kind p hk,A5k,Ac,Bvb,Ac]
    simp only
    rw[Ug _ _ (by simp only[Av];simp[Qt];omega),Ac,Bf1,Ac]
    cases ((sn.length:Int)==12)<;>cases inR ep 0 4294967295<;>cases inR seq 0 281474976710655<;>cases Jo kind (p.length:Int)<;>rfl
theorem Boe (x:List YB) (r a b:Int) (n1 n2:List YB) (c:Int) (n3 n4:List YB) (d e:Int) (n5 n6:List YB) (kind f:Int) (n7 sn:List YB) (g:Int) (n8 n9:List YB) (ep seq:Int) (body:List YB):
  A0 Pm (x,r,(0:Int),a,b,n1,n2,c,n3,n4,d,e,n5,n6,kind,f,n7,sn,g,n8,n9,ep,seq,body,[],())=some (x,r,a,b,n1,n2,c,n3,n4,d,e,n5,n6,kind,f,n7,sn,g,n8,n9,ep,seq,body,Qt,()):=by
 exact Cs (B:=Pm) 16 (fun i=>(x,r,(i:Int),a,b,n1,n2,c,n3,n4,d,e,n5,n6,kind,f,n7,sn,g,n8,n9,ep,seq,body,List.replicate i ((0:Int),()),())) _
  (fun i hi=>by
   unfold Pm
   simp only[Af,Ak,Aa]
   rw[Ai zq0,A6,Ai zq1,Ay,w64 zq0,<-List.replicate_succ']
   rfl)
  (by unfold Pm;simp only[Af,Ak,Aa];rfl)
theorem Bre (k:List YB) (r:Int) (sn:List YB) (ep seq kind:Int) (p:List YB) (h1:sn.length<=67108864) (h2:p.length<=67108864):B6 (k,()) (r,()) (sn,()) (ep,()) (seq,()) (kind,()) (p,())=some (Gz k r sn ep seq kind p):=by
 have hm:=Azw k (Et r sn ep seq) p
 have hh:=Pb r sn ep seq
 unfold B6 Ars Gz Nc
 simp only[Af,Ah,Aa,Ak,List.nil_append,List.length_nil,Nat.zero_add]
 rw[Aui,Ac]
 simp only[Wt,A5i,Ac,bne]
 cases ((k.length:Int)==32)with
 |false=>rfl
 |true=>
  cases hd:H1 r sn ep seq with
  |false=>
   rw[hd]at hh
   have e:((Et r sn ep seq).length:Int)==0:=by rw[hh];rfl
   rw[e];rfl
  |true=>
   rw[hd]at hh
   have e:(((Et r sn ep seq).length:Int)==0)=false:=by rw[hh];rfl
   rw[e]
   cases hk:inR kind 4 8 with
   |false=>rfl
   |true=>
    cases hb:Jo kind (p.length:Int)with
    |false=>rfl
    |true=>
     simp only[Bool.not_true,Ao,Bool.true_and,Bool.and_true,cond_true]
     rw[Ai zq0,Ay,Bvc,Ac]
     simp only
     rw[Boe,Ac]
     simp only
     rw[Aan _ _ (by simp only[Av];simp[Qt];omega),Ac,Bf2,Ac]
theorem Blh (k:List YB) (r:Int) (sn:List YB) (ep seq kind:Int) (p:List YB):Av (Gz k r sn ep seq kind p).1<=sn.length+p.length+32:=by
 have hm:=Azw k (Et r sn ep seq) p
 have ht:=Bmk k (D9 r (kind,0,[],sn,0,[],[],ep,seq,mix k (Et r sn ep seq) p,Qt,()))
 unfold Gz
 cases Nc k r sn ep seq kind p<;>simp[Av,H2]
 omega
theorem Adc (r:Int) (f:Ap):(D9 r f).length<=Av f+32:=by
 have hh:=Pb r f.2.2.2.1 f.2.2.2.2.2.2.2.1 f.2.2.2.2.2.2.2.2.1
 have hle:(Et r f.2.2.2.1 f.2.2.2.2.2.2.2.1 f.2.2.2.2.2.2.2.2.1).length<=23:=by rw[hh];cases H1 r f.2.2.2.1 f.2.2.2.2.2.2.2.1 f.2.2.2.2.2.2.2.2.1<;>simp
 unfold D9 Av
 cases (inR r 0 1 && (Bu f && inR f.1 4 8))<;>simp
 omega
theorem Azx (d:Dg) (h:Gv d<=4294967296):Ac9 d=some d:=by
 simp only[Gv]at h
 unfold Ac9 Amg
 simp only[Ak,Aa,List.length_nil,Nat.zero_add,List.nil_append]
 rw[Ai h];rfl
theorem Bht (d:Dg) (h:Gv d<=4294967296):Atf d=some d:=Azx d h
theorem A5l (d:YEp) (h:Cu d<=4294967296):T8 d=some d:=by
 simp only[Cu]at h
 unfold T8 Arv
 simp (disch:=first|omega|(dsimp only;omega)|(simp only[Gv];omega)) only[Ah,Aa,Cb,Azx,Ac]
theorem Auj (d:YEp) (h:Cu d<=4294967296):T6 d=some d:=by
 simp only[Cu]at h
 unfold T6 Aq8
 simp (disch:=first|omega|(dsimp only;omega)|(simp only[Gv];omega)) only[Ah,Ak,Aa,Bht,Ac,List.length_nil,Nat.zero_add,List.nil_append,Ai,Ay]
theorem Bvl (d:YEp) (b:Bool×Unit) (h:Cu d<=4294967296):Azg d b=some d:=by
 have h':=h
 simp only[Cu]at h
 unfold Azg Axr
 simp (disch:=first|omega|(dsimp only;omega)) only[Af,Ah,Ak,Aa,Auj,Ac,List.length_nil,Nat.zero_add,List.nil_append,Ai,Ay]
 cases b.1<;>rfl
theorem Uh (d:Au) (h:A9 d<=4294967296):Ih d=some d:=by
 simp only[A9]at h
 unfold Ih Ahk
 simp (disch:=first|omega|(dsimp only;omega)|(simp only[Cu];omega)) only[Ah,Ak,Aa,Cb,A5l,Ac]
theorem S5 (d:Au) (h:A9 d<=4294967296):Jb d=some d:=by
 simp only[A9]at h
 unfold Jb Al2
 simp (disch:=first|omega|(dsimp only;omega)|(simp only[Cu];omega)) only[Ah,Ak,Aa,Auj,Bvl,Ac,List.length_nil,Nat.zero_add,List.nil_append,Ai,Ay]
theorem Nv (d:Bn) (h:Bd d<=4294967296):Fr d=some d:=by
 obtain⟨a,b,l,⟨⟩⟩:=d
 simp only[Bd]at h
 have hl:=Cs (B:=J2) l.length (fun i=>(l,(l.length:Int),(i:Int),(0:Int),(0:Int),([]:List Bb),a,b,l.take i,())) ((0:Int),(0:Int),([]:List Bb),a,b,l,())
  (fun i hi=>by
   have hx:=List.getElem?_eq_getElem hi
   have h2:=Ln (f:=D0) hx
   simp only[D0]at h2
   unfold J2
   simp only[Af,Ah,Aa,Ak,Dh hi,A6,B8 hx,Ac]
   rw[Cb _ zq2,Ac,Ai zq1,Ay,w64 zq0]
   exact congrArg (fun t=>some (Sum.inl (l,(l.length:Int),(i:Int)+1,(0:Int),(0:Int),([]:List Bb),a,b,t,()))) (Ff hx))
  (by unfold J2;simp only[Af,Aa,Di,Ao,List.take_length])
 unfold Fr Aer
 simp only[Ah,Aa]
 rw[show A0 J2 (l,(l.length:Int),(0:Int),(0:Int),(0:Int),([]:List Bb),a,b,([]:List Bb),())=_ from hl]
 rfl
theorem Aku (d:Bb) (h:D0 d<=4294967296):Q7 d=some d:=by
 simp only[D0]at h
 unfold Q7 Alx
 simp only[Ak,Aa,List.length_nil,Nat.zero_add,List.nil_append]
 rw[Ai h];rfl
theorem Xc (d:Bn) (h:Bd d<=4294967296):Ei d=some d:=by
 obtain⟨a,b,l,⟨⟩⟩:=d
 simp only[Bd]at h
 have hl:=Cs (B:=Mf) l.length (fun i=>((i:Int),a,b,l,(0:Int),(0:Int),([]:List Bb),a,b,l.take i,())) ((0:Int),(0:Int),([]:List Bb),a,b,l,())
  (fun i hi=>by
   have hx:=List.getElem?_eq_getElem hi
   have h2:=Ln (f:=D0) hx
   unfold Mf
   simp only[Af,Ah,Aa,Ak,Dh hi,A6,B8 hx,Ac]
   rw[Aku _ zq0,Ac,Ai zq1,Ay,w64 zq0]
   exact congrArg (fun t=>some (Sum.inl ((i:Int)+1,a,b,l,(0:Int),(0:Int),([]:List Bb),a,b,t,()))) (Ff hx))
  (by unfold Mf;simp only[Af,Aa,Di,Ao,List.take_length])
 unfold Ei Aly
 simp only[Ah,Aa]
 rw[show A0 Mf ((0:Int),a,b,l,(0:Int),(0:Int),([]:List Bb),a,b,([]:List Bb),())=_ from hl]
 rfl
theorem Nd (d:Al) (h:A5 d<=4294967296):Lz d=some d:=by
 simp only[A5]at h
 unfold Lz Ahl
 simp (disch:=first|omega|(dsimp only;omega)|(simp only[A9];omega)|(simp only[Bd];omega)) only[Ah,Ak,Aa,Cb,Uh,Nv,Ac]
theorem Ad3 (d:Al) (h:A5 d<=4294967296):Nu d=some d:=by
 simp only[A5]at h
 unfold Nu Al3
 simp (disch:=first|omega|(dsimp only;omega)|(simp only[A9];omega)|(simp only[Bd];omega)) only[Ah,Ak,Aa,S5,Xc,Ac,List.length_nil,Nat.zero_add,List.nil_append,Ai,Ay]
theorem Akv (d:Ck) (h:Cf d<=4294967296):Ra d=some d:=by
 obtain⟨c,l,⟨⟩⟩:=d
 simp only[Cf]at h
 have hl:=Cs (B:=Mi) l.length (fun i=>(l,(l.length:Int),(i:Int),(0:Int),([]:List Al),c,l.take i,())) ((0:Int),([]:List Al),c,l,())
  (fun i hi=>by
   have hx:=List.getElem?_eq_getElem hi
   have h2:=Ln (f:=A5) hx
   unfold Mi
   simp only[Af,Ah,Aa,Ak,Dh hi,A6,B8 hx,Ac]
   rw[Nd _ zq0,Ac,Ai zq1,Ay,w64 zq0]
   exact congrArg (fun t=>some (Sum.inl (l,(l.length:Int),(i:Int)+1,(0:Int),([]:List Al),c,t,()))) (Ff hx))
  (by unfold Mi;simp only[Af,Aa,Di,Ao,List.take_length])
 unfold Ra Ami
 simp only[Ah,Aa]
 rw[show A0 Mi (l,(l.length:Int),(0:Int),(0:Int),([]:List Al),c,([]:List Al),())=_ from hl]
 rfl
theorem Bdo (d:Ck) (h:Cf d<=4294967296):Ac6 d=some d:=by
 obtain⟨c,l,⟨⟩⟩:=d
 simp only[Cf]at h
 have hl:=Cs (B:=Mg) l.length (fun i=>((i:Int),c,l,(0:Int),([]:List Al),c,l.take i,())) ((0:Int),([]:List Al),c,l,())
  (fun i hi=>by
   have hx:=List.getElem?_eq_getElem hi
   have h2:=Ln (f:=A5) hx
   unfold Mg
   simp only[Af,Ah,Aa,Ak,Dh hi,A6,B8 hx,Ac]
   rw[Ad3 _ zq0,Ac,Ai zq1,Ay,w64 zq0]
   exact congrArg (fun t=>some (Sum.inl ((i:Int)+1,c,l,(0:Int),([]:List Al),c,t,()))) (Ff hx))
  (by unfold Mg;simp only[Af,Aa,Di,Ao,List.take_length])
 unfold Ac6 Al5
 simp only[Ah,Aa]
 rw[show A0 Mg ((0:Int),c,l,(0:Int),([]:List Al),c,([]:List Al),())=_ from hl]
 rfl
def L8 (b:YBs):Bool:=inR (b.1.length:Int) 1 32
theorem A1b (b:YBs):W9 b=some (L8 b,()):=by
 unfold W9 Ayg
 simp only[Ah,Aa,Cm,Ac];rfl
theorem Agr (b:YBs):Sm b=some (L8 b,()):=by
 unfold Sm Axc
 simp only[Ah,Aa,Cy,Ac];rfl
theorem A1c (b:YBs):Akk b=some ((b.1.length:Int)==32,()):=rfl
theorem Apn (b:YBs):Akf b=some ((b.1.length:Int)==32,()):=rfl
def G3 (d:Gq):Bool:=inR (d.1.length:Int) 1 32 && inR d.2.1 0 10000
theorem Bhu (d:Gq):Af2 d=some (G3 d,()):=by
 unfold Af2 Arz
 simp only[Af,Ah,Aa,Cm,Ac,S2];rfl
theorem Bhv (d:Gq):Afy d=some (G3 d,()):=by
 unfold Afy Aqe
 simp only[Af,Ah,Aa,Cy,Ac,S2];rfl
def Ej (s:Bc):Bool:=
 inR (s.1.length:Int) 1 9 && (((s.2.1.length:Int)==32) && (G3 (s.2.2.1,s.2.2.2.1,()) && (Je (s.2.2.2.2.1,s.2.2.2.2.2.1,()) && (Cr s.2.2.2.2.2.2.1 &&
  (Ee (fun _ x=> !L8 x) s.1 && Ee (fun _ (x:Al)=>decide (x.1>(s.1.length:Int))) s.2.2.2.2.2.1)))))
theorem A8y (s:Bc) (h:Bh s<=4294967296):Su s=some (Ej s,()):=by
 obtain⟨ps,jar,sd,n,cap,ss,cr,⟨⟩⟩:=s
 simp only[Bh]at h
 have hl1:=Gb (B:=Lg) ps (fun i=>(ps,(ps.length:Int),(i:Int),ps,jar,sd,n,cap,ss,cr,())) (fun _ x=> !L8 x) (false,()) (ps,jar,sd,n,cap,ss,cr,())
  (fun i x hi hx=>by
   unfold Lg
   simp (disch:=omega) only[Af,Ah,Aa,Dh hi,A6,B8 hx,Ac,w64,A1b]
   rfl)
  (by unfold Lg;simp only[Af,Aa,Di,Ao])
 have hl2:=Gb (B:=J3) ss (fun i=>(ss,(ss.length:Int),(i:Int),ps,jar,sd,n,cap,ss,cr,())) (fun _ x=>decide (x.1>(ps.length:Int))) (false,()) ()
  (fun i x hi hx=>by
   unfold J3
   simp (disch:=omega) only[Af,Ah,Aa,Dh hi,A6,B8 hx,Ac,w64]
   rfl)
  (by unfold J3;simp only[Af,Aa,Di,Ao])
 unfold Su Zh Ej
 simp only[Af,Ah,Aa,Ey,Cm,Ac,A1c,Bhu]
 rw[Apg _ (by simp only[Cf];omega),Vj _ zq0,show((0:Int))=((0:Nat):Int)from rfl,hl1]
 simp only[Ac]
 cases inR (ps.length:Int) 1 9 with
 |false=>rfl
 |true=>
  cases ((jar.length:Int)==32)with
  |false=>rfl
  |true=>
   cases G3 (sd,n,())with
   |false=>rfl
   |true=>
    cases Je (cap,ss,())with
    |false=>rfl
    |true=>
     cases Cr cr with
     |false=>rfl
     |true=>
      cases Ee (fun _ x=> !L8 x) ps with
      |false=>rfl
      |true=>
       simp only[Bool.not_true,Ao,cond_true,sm]
       rw[hl2]
       cases Ee (fun _ (x:Al)=>decide (x.1>(ps.length:Int))) ss<;>rfl
theorem Auk (s:Bc) (h:Bh s<=4294967296):So s=some (Ej s,()):=by
 obtain⟨ps,jar,sd,n,cap,ss,cr,⟨⟩⟩:=s
 simp only[Bh]at h
 have hl1:=Gb (B:=Lc) ps (fun i=>((i:Int),ps,jar,sd,n,cap,ss,cr,())) (fun _ x=> !L8 x) (false,()) (ps,jar,sd,n,cap,ss,cr,())
  (fun i x hi hx=>by
   unfold Lc
   simp (disch:=omega) only[Af,Ah,Aa,Dh hi,A6,B8 hx,Ac,w64,Agr]
   rfl)
  (by unfold Lc;simp only[Af,Aa,Di,Ao])
 have hl2:=Gb (B:=Ld) ss (fun i=>((i:Int),ps,jar,sd,n,cap,ss,cr,())) (fun _ x=>decide (x.1>(ps.length:Int))) (false,()) ()
  (fun i x hi hx=>by
   unfold Ld
   simp (disch:=omega) only[Af,Ah,Aa,Dh hi,A6,B8 hx,Ac,w64]
   rfl)
  (by unfold Ld;simp only[Af,Aa,Di,Ao])
 unfold So Xw Ej
 simp only[Af,Ah,Aa,Ey,Cy,Ac,Apn,Bhv]
 rw[Bmf _ (by simp only[Cf];omega),K8 _ zq0,show((0:Int))=((0:Nat):Int)from rfl,hl1]
 simp only[Ac]
 cases inR (ps.length:Int) 1 9 with
 |false=>rfl
 |true=>
  cases ((jar.length:Int)==32)with
  |false=>rfl
  |true=>
   cases G3 (sd,n,())with
   |false=>rfl
   |true=>
    cases Je (cap,ss,())with
    |false=>rfl
    |true=>
     cases Cr cr with
     |false=>rfl
     |true=>
      cases Ee (fun _ x=> !L8 x) ps with
      |false=>rfl
      |true=>
       simp only[Bool.not_true,Ao,cond_true,sm]
       rw[hl2]
       cases Ee (fun _ (x:Al)=>decide (x.1>(ps.length:Int))) ss<;>rfl
theorem A5m {E:Type} {f:E->Nat}: ∀ {l:List E} {i:Nat} {x:E},Br f (l.set i x)<=Br f l+f x
 |[],_,_=>by simp[Br]
 |a::r,0,x=>by simp only[List.set_cons_zero,Br];omega
 |a::r,i+1,x=>by have:=A5m (f:=f) (l:=r) (i:=i) (x:=x);simp only[List.set_cons_succ,Br];omega
theorem A8z (t:Ck) (s:Al) (h:Cf t+A5 s<=1073741824): ∃r b,Vg t s=some (r,(b,()))/\Q9 t s=some (r,(b,()))/\Cf r<=Cf t+A5 s+1:=by
 unfold Vg Ac0 Q9 Al6
 simp only[Af,Ah,Aa,Ak]
 have hl:t.2.1.length<=Cf t:=by simp only[Cf];omega
 rw[Akv t zq0,Bdo t zq0,Apg t zq0,Bmf t zq0,Nd s zq0,Ad3 s zq0,Wr s zq0,Ai5 s zq0,Pt _ _ zq0,At9 _ _ zq0,Bhj _ zq0,Bqz _ zq0]
 simp only[Ac]
 cases Je t with
 |false=>exact⟨t,1,rfl,rfl,by omega⟩
 |true=>
  cases Dk s with
  |false=>exact⟨t,1,rfl,rfl,by omega⟩
  |true=>
   simp only[Bool.not_true,Ao]
   cases s.2.2.2.2.2.2.2.2.2.2.2.2.2.2.2.2.2.2.2.2.2.2.2.1 with
   |true=>exact⟨t,1,rfl,rfl,by omega⟩
   |false=>
    simp only[Ao]
    cases decide (Es t.2.1 s.2.2.1≥0)with
    |true=>exact⟨t,3,rfl,rfl,by omega⟩
    |false=>
     simp only[Ao]
     cases E0 t==t.1 with
     |true=>exact⟨t,7,rfl,rfl,by omega⟩
     |false=>
      simp only[Ao]
      cases (t.2.1.length:Int)==12 with
      |true=>exact⟨t,7,rfl,rfl,by omega⟩
      |false=>
       simp only[Ao]
       rw[Ai zq1,Ay]
       refine⟨_,0,rfl,rfl,?_⟩
       simp only[Cf,Pu,Br,List.length_append,List.length_cons,List.length_nil]
       omega
def Pv (k l:List YB):List YB×Bool:=if l.length<=100/\k.length<=1048576 then(H6 k (l++[((1:Int),())]),true)else([],false)
theorem Bof (k l:List YB):Atx (k,()) (l,()) ((32:Int),())=some (((Pv k l).1,()),((Pv k l).2,())):=by
 unfold Atx Asm Pv
 simp only[Af,Ah,Aa,Ak,Cm,Ac]
 rw[C4 zq7]
 by_cases hl:l.length<=100
 .rw[Bt zq0,Ao]
  by_cases hk:k.length<=1048576
  .rw[Bt zq0,Ao,if_pos ⟨hl,hk⟩]
   have h32:(H6 k (l++[((1:Int),())])).length=32:=Rc _ _ hk zq1
   have e1:Oh (k,l,(32:Int),[],[],(1:Int),())=some (.inl (k,l,(32:Int),H6 k (l++[((1:Int),())]),H6 k (l++[((1:Int),())]),(2:Int),())):=by
    unfold Oh
    simp only[Af,Ah,Aa,Ak]
    rw[Ai zq3,A6,Hv _ zq5 zq3,Ac,show cat [([],()),(l,()),([(IntKind.u8.wrap 1,())],())]=l++[((1:Int),())] by simp[cat];rfl,Apl,Ac,Ai (by dsimp only[List.length_nil];omega),Ay,List.nil_append]
    rfl
   have e2:Oh (k,l,(32:Int),H6 k (l++[((1:Int),())]),H6 k (l++[((1:Int),())]),(2:Int),())=some (.inr ((32:Int),H6 k (l++[((1:Int),())]),())):=by
    unfold Oh
    simp only[Af,Ah,Aa,Ak]
    rw[Bt zq0,Ao]
   rw[Eo,e1]
   simp only
   rw[Eo,e2]
   simp only[Ac]
   rw[Ai zq0,Ay,Ai zq0,Ay,show(32:Int).toNat=32 from rfl,show(0:Int).toNat=0 from rfl,List.drop_zero,List.take_of_length_le zq0,Cb _ zq2,Ac]
  .rw[Ai zq0,A6,if_neg (fun h=>hk h.2)]
 .rw[Ai zq0,A6,if_neg (fun h=>hl h.1)]
theorem Bog (k l:List YB):Atd (k,()) (l,()) ((32:Int),())=some (((Pv k l).1,()),((Pv k l).2,())):=by
 unfold Atd Aqg Pv
 simp only[Af,Ah,Aa,Ak,Cy,Ac,List.nil_append,List.length_nil,Nat.zero_add]
 rw[C4 zq7]
 by_cases hl:l.length<=100
 .rw[Bt zq0,Ao]
  by_cases hk:k.length<=1048576
  .rw[Bt zq0,Ao,if_pos ⟨hl,hk⟩]
   have h32:(H6 k (l++[((1:Int),())])).length=32:=Rc _ _ hk zq1
   have e1:N6 (k,l,(32:Int),[],[],(1:Int),())=some (.inl (k,l,(32:Int),H6 k (l++[((1:Int),())]),H6 k (l++[((1:Int),())]),(2:Int),())):=by
    unfold N6
    simp only[Af,Ah,Aa,Ak,List.nil_append,List.length_nil,Nat.zero_add]
    rw[Ai zq3,A6,Ai zq0,Ay,Ai zq0,Ay,Ai zq1,Ay,show(IntKind.u8.wrap 1:Int)=1 from rfl,Apm,Ac,Ai zq2,Ay]
    rfl
   have e2:N6 (k,l,(32:Int),H6 k (l++[((1:Int),())]),H6 k (l++[((1:Int),())]),(2:Int),())=some (.inr ((32:Int),H6 k (l++[((1:Int),())]),())):=by
    unfold N6
    simp only[Af,Ah,Aa,Ak]
    rw[Bt zq0,Ao]
   rw[Eo,e1]
   simp only
   rw[Eo,e2]
   simp only[Ac]
   rw[Ai zq0,Ay,Ai zq0,Ay,show(32:Int).toNat=32 from rfl,show(0:Int).toNat=0 from rfl,List.drop_zero,List.take_of_length_le zq0,Ai zq0,Ay]
  .rw[Ai zq0,A6,if_neg (fun h=>hk h.2)]
 .rw[Ai zq0,A6,if_neg (fun h=>hl h.1)]
def Ip (k l:List YB):List YB:=(Pv k l).1
theorem Aul (k l:List YB):(Ip k l).length=32\/(Ip k l).length=0:=by
 unfold Ip Pv
 split
 .exact Auf _ _
 .right;rfl
theorem A5n (k:List YB) (b:ByteArray) (h:b.size<=4294967296):M7 (k,()) (b,())=some (Ip k (Kq b),()):=by
 unfold M7 Asn
 simp only[Ah,Aa,Ak]
 rw[Ai h,Ay,Bof,Ac];rfl
theorem Aum (k:List YB) (b:ByteArray) (h:b.size<=4294967296):Eb (k,()) (b,())=some (Ip k (Kq b),()):=by
 unfold Eb Aqh
 simp only[Ah,Aa,Ak]
 rw[Ai h,Ay,Bog,Ac];rfl
def Ad4:List YB:=Kq (Dq [114,101,107,101,121])
def Bhw:List YB:=Kq (Dq [101,112,111,99,104])
theorem Bdp (k:List YB):M7 (k,()) (Dq [114,101,107,101,121],())=some (Ip k Ad4,()):=A5n k _ zq7
theorem Azy (k:List YB):Eb (k,()) (Dq [114,101,107,101,121],())=some (Ip k Ad4,()):=Aum k _ zq7
theorem Brf (k:List YB):M7 (k,()) (Dq [101,112,111,99,104],())=some (Ip k Bhw,()):=A5n k _ zq7
theorem Brg (k:List YB):Eb (k,()) (Dq [101,112,111,99,104],())=some (Ip k Bhw,()):=Aum k _ zq7
def Apo (k:List YB):Nat->List YB
 |0=>k
 |n+1=>Ip (Apo k n) Ad4
def App (k:List YB) (n:Int):List YB:=if 0<=n/\n<=64 then Apo k n.toNat else []
theorem Bvm (k:List YB) (n:Int) (h:k.length<=4294967296):Azm (k,()) (n,())=some (App k n,()):=by
 unfold Azm Ayu App
 simp only[Af,Ah,Aa,Cm,Ac]
 by_cases hn:0<=n/\n<=64
 .obtain⟨m,rfl⟩:=Int.eq_ofNat_of_zero_le hn.1
  have hr:=Cs (B:=Q5) m (fun i=>((m:Int),Apo k i,(i:Int),())) (Apo k m,())
   (fun i hi=>by
    unfold Q5
    simp only[Af,Ah,Aa]
    rw[Ai zq0,A6,Bdp,Ac,w64 zq0]
    rfl)
   (by
    unfold Q5
    simp only[Af,Ah,Aa]
    rw[Bt zq0,Ao])
  rw[C4 zq8,Cb _ h,Ac,if_pos hn]
  rw[show A0 Q5 ((m:Int),k,(0:Int),())=_ from hr,Ac]
  rfl
 .rw[if_neg hn,Dv zq8]
theorem Bvn (k:List YB) (n:Int) (h:k.length<=4294967296):Aze (k,()) (n,())=some (App k n,()):=by
 unfold Aze Axh App
 simp only[Af,Ah,Aa,Ak,Cy,Ac,List.nil_append,List.length_nil,Nat.zero_add]
 by_cases hn:0<=n/\n<=64
 .obtain⟨m,rfl⟩:=Int.eq_ofNat_of_zero_le hn.1
  have hr:=Cs (B:=Q0) m (fun i=>((m:Int),Apo k i,(i:Int),())) (Apo k m,())
   (fun i hi=>by
    unfold Q0
    simp only[Af,Ah,Aa]
    rw[Ai zq0,A6,Azy,Ac,w64 zq0]
    rfl)
   (by
    unfold Q0
    simp only[Af,Ah,Aa]
    rw[Bt zq0,Ao])
  rw[C4 zq8,Ai h,Ay,if_pos hn]
  rw[show A0 Q0 ((m:Int),k,(0:Int),())=_ from hr,Ac]
  rfl
 .rw[if_neg hn,Dv zq8]
def Lp (p a b:List YB):List YB:=if inR (p.length:Int) 1 32=true/\a.length=12/\b.length=12 then H6 (a++b) p else []
theorem Brh (p a b:List YB):Ane (p,()) (a,()) (b,())=some (Lp p a b,()):=by
 unfold Ane Amr Lp Ada Acw
 simp only[Af,Ah,Aa,A1b,Hz,Ac,L8]
 cases inR (p.length:Int) 1 32 with
 |false=>rw[if_neg zq3];rfl
 |true=>
  simp only[Bool.not_true,Ao]
  by_cases h1:a.length=12
  .rw[C4 (by simp[h1])]
   by_cases h2:b.length=12
   .rw[C4 (by simp[h2]),Hv _ zq5 zq3,Ac,show cat [(a,()),(b,())]=a++b by simp[cat],Apl,if_pos ⟨trivial,h1,h2⟩];rfl
   .rw[Dv zq1,if_neg (fun h=>h2 h.2.2)]
  .rw[Dv zq1,if_neg (fun h=>h1 h.2.1)]
theorem Bri (p a b:List YB):Am8 (p,()) (a,()) (b,())=some (Lp p a b,()):=by
 unfold Am8 Alq Lp Ac4 Acj
 simp only[Af,Ah,Aa,Ak,Agr,Ac,L8,List.nil_append,List.length_nil,Nat.zero_add]
 cases inR (p.length:Int) 1 32 with
 |false=>rw[if_neg zq3];rfl
 |true=>
  simp only[Bool.not_true,Ao]
  by_cases h1:a.length=12
  .rw[C4 (by simp[h1])]
   by_cases h2:b.length=12
   .rw[C4 (by simp[h2]),Ai zq0,Ay,Ai zq0,Ay,Apm,if_pos ⟨trivial,h1,h2⟩];rfl
   .rw[Dv zq1,if_neg (fun h=>h2 h.2.2)]
  .rw[Dv zq1,if_neg (fun h=>h1 h.2.1)]
def I5 (r:List YB):List YB:=if r.length=32 then Ip r Bhw else []
theorem Azz (r:List YB):(I5 r).length=32\/(I5 r).length=0:=by
 unfold I5
 split
 .exact Aul _ _
 .right;rfl
theorem Boh (r:List YB):Aix (r,())=some (I5 r,()):=by
 unfold Aix Ah6 I5
 simp only[Af,Ah,Aa,Brf,Ac]
 by_cases h:r.length=32
 .rw[if_pos h,C4 (by simp[h])]
 .rw[if_neg h,Dv zq1]
theorem Boi (r:List YB):Aip (r,())=some (I5 r,()):=by
 unfold Aip Ag6 I5
 simp only[Af,Ah,Aa,Brg,Ac]
 by_cases h:r.length=32
 .rw[if_pos h,C4 (by simp[h])]
 .rw[if_neg h,Dv zq1]
def Nw (p a b:List YB) (n:Int):List YB:=if (I5 (Lp p a b)).length=0 then []else App (I5 (Lp p a b)) n
theorem Boj (p a b:List YB) (n:YI):Z9 (p,()) (a,()) (b,()) n=some (Nw p a b n.1,()):=by
 have hf:=Azz (Lp p a b)
 unfold Z9 Ah7 Nw
 simp only[Af,Ah,Aa,Brh,Boh,Ac]
 by_cases h:(I5 (Lp p a b)).length=0
 .rw[if_pos h,Dv (by simp[h])]
 .rw[if_neg h,C4 (by simp;intro e;rw[e]at h;exact h rfl),Bvm _ _ zq0];rfl
theorem Aun (p a b:List YB) (n:YI):Z3 (p,()) (a,()) (b,()) n=some (Nw p a b n.1,()):=by
 have hf:=Azz (Lp p a b)
 unfold Z3 Ag7 Nw
 simp only[Af,Ah,Aa,Bri,Boi,Ac]
 by_cases h:(I5 (Lp p a b)).length=0
 .rw[if_pos h,Dv (by simp[h]),List.eq_nil_of_length_eq_zero h]
 .rw[if_neg h,C4 (by simp;intro e;rw[e]at h;exact h rfl),Bvn _ _ zq0];rfl
theorem Auo:Af0=Af6:=by
 have hr:=Cs (B:=N7) 32 (fun i=>((i:Int),(0:Int),([]:List YI),(-1:Int),List.replicate i ((0:Int),()),())) ((0:Int),([]:List YI),(-1:Int),List.replicate 32 ((0:Int),()),())
  (fun i hi=>by
   unfold N7
   simp only[Af,Ak,Aa]
   rw[Ai zq0,A6,Ai zq1,Ay,w64 zq0,List.replicate_succ']
   rfl)
  (by
   unfold N7
   simp only[Af,Ak,Aa]
   rw[Bt zq0,Ao])
 unfold Af0 Aqz Af6 Aso
 simp only[Ah,Aa]
 rw[show A0 N7 ((0:Int),(0:Int),([]:List YI),(-1:Int),([]:List YI),())=_ from hr,Ac]
 rfl
def Aja:Dg:=((-1:Int),List.replicate 32 ((0:Int),()),())
theorem Aup:Af6=some Aja:=rfl
theorem Auq (n:YI) (k:YBs): ∃r,O8 n k=some r/\Gl n k=some r/\Cu r<=64:=by
 unfold O8 Akd Gl Ado
 simp only[Af,Ah,Aa,Ak,Cm,Cy,Ac,Auo,Aup,List.nil_append,List.length_nil,Nat.zero_add]
 cases inR n.1 0 4294967295 with
 |false=>exact⟨_,rfl,rfl,by decide⟩
 |true=>
  simp only[Bool.not_true,Ao]
  by_cases h:k.1.length=32
  .have q:((k.1.length:Int) != 32)=false:=by simp[h]
   rw[q,Cb k zq0,Ai zq0]
   simp only[Ao,Ac,Ay]
   refine⟨_,rfl,rfl,?_⟩
   simp only[Cu,Aja,List.length_replicate];omega
  .have q:((k.1.length:Int) != 32)=true:=by simp;omega
   rw[q]
   exact⟨_,rfl,rfl,by decide⟩
theorem Bok (n:YI) (a k:YBs): ∃r,Vf n a k=some r/\Ja n a k=some r/\A9 r<=76:=by
 unfold Vf Acz Ja Ux
 simp only[Af,Ah,Aa,Ak,Abx,Cy,Hz,Ac,Ago,List.nil_append,List.length_nil,Nat.zero_add]
 cases inR n.1 0 1 with
 |false=>exact⟨_,rfl,rfl,by decide⟩
 |true=>
  simp only[Bool.not_true,Ao]
  by_cases h1:a.1.length=12
  .have q1:((a.1.length:Int)==12)=true:=by simp[h1]
   have q2:((a.1.length:Int) != 12)=false:=by simp[h1]
   rw[q1,q2]
   simp only[Bool.not_true,Ao]
   by_cases h:k.1.length=32
   .have q:((k.1.length:Int) != 32)=false:=by simp[h]
    obtain⟨r,e1,e2,e3⟩:=Auq ((0:Int),()) k
    rw[q,Cb a zq0,Ai zq0,e1,e2]
    simp only[Ao,Ac,Ay]
    refine⟨_,rfl,rfl,?_⟩
    simp only[Cu]at e3
    simp only[A9,List.length_nil];omega
   .have q:((k.1.length:Int) != 32)=true:=by simp;omega
    rw[q]
    exact⟨_,rfl,rfl,by decide⟩
  .have q1:((a.1.length:Int)==12)=false:=by simp;omega
   have q2:((a.1.length:Int) != 12)=true:=by simp;omega
   rw[q1,q2]
   exact⟨_,rfl,rfl,by decide⟩
theorem A80 (p:YBs) (n:YI) (a:A8) (f:Ap) (h:Av f<=1073741824): ∃r,Adb p n a f=some r/\Nt p n a f=some r/\A5 r<=Av f+76:=by
 have hn:f.2.2.1.length+f.2.2.2.1.length<=Av f:=by simp only[Av];omega
 obtain⟨c,e1,e2,e3⟩:=Bok ((1:Int),()) (f.2.2.2.1,()) (Nw p.1 f.2.2.1 f.2.2.2.1 0,())
 unfold Adb Ams Nt Uy Azl Ah5 Sp Ag9
 simp only[Af,Ah,Aa,Ak,Cm,Cy,Ac,A1b,Agr,Ik,Il,List.nil_append,List.length_nil,Nat.zero_add]
 rw[Jq f,Jp f,Ac,Ac]
 have z:A5 ((0:Int),([]:List (Int×Unit)),([]:List (Int×Unit)),(0:Int),([]:List (Int×Unit)),(0:Int),([]:List (Int×Unit)),(0:Int),(0:Int),([]:List (Int×Unit)),(0:Int),([]:List (Int×Unit)),(0:Int),(0:Int),([]:List (Int×Unit)),false,(0:Int),([]:List (Int×Unit)),(0:Int),(0:Int),([]:List (Int×Int×(List (Int×Unit))×Int×Unit)),(0:Int),(0:Int),false,())<=Av f+76:=by
  simp only[A5,Br,List.length_nil];omega
 cases L8 p with
 |false=>exact⟨_,rfl,rfl,z⟩
 |true=>
  cases inR n.1 0 1000000 with
  |false=>exact⟨_,rfl,rfl,z⟩
  |true=>
   cases Cq a with
   |false=>exact⟨_,rfl,rfl,z⟩
   |true=>
    cases hk:(f.1 != (3:Int))with
    |true=>cases Bu f<;>exact⟨_,rfl,rfl,z⟩
    |false=>
     cases Bu f with
     |false=>exact⟨_,rfl,rfl,z⟩
     |true=>
      simp only[Bool.not_true,Ao]
      rw[Cb _ zq2,Cb _ zq2,Ai zq0,Ay,Ai zq0,Ay]
      simp only[Ac]
      rw[show Z9 p (f.2.2.1,()) (f.2.2.2.1,()) ((0:Int),())=some (Nw p.1 f.2.2.1 f.2.2.2.1 0,())from Boj _ _ _ _,show Z3 p (f.2.2.1,()) (f.2.2.2.1,()) ((0:Int),())=some (Nw p.1 f.2.2.1 f.2.2.2.1 0,())from Aun _ _ _ _]
      simp only[Ac]
      rw[e1,e2]
      simp only[Ac]
      refine⟨_,rfl,rfl,?_⟩
      simp only[A9]at e3
      simp only[A5,Br,List.length_nil];omega
theorem A5o (d:Ap) (h:Av d<=4294967296):Afz d=some d:=by
 simp only[Av]at h
 unfold Afz Aqx
 simp (disch:=first|omega|(dsimp only;omega)) only[Ak,Aa,List.length_nil,Nat.zero_add,List.nil_append,Ai,Ay]
def Akw:List YB:=[((114:Int),()),((111:Int),()),((108:Int),()),((108:Int),())]
def S6 (s:List YB) (n:Int):List YB:=if inR (s.length:Int) 1 32=true/\inR n 0 10000=true then(H6 s (Akw++F9 n 4 4)).take 12 else []
theorem Bol (s:List YB) (n:Int):(S6 s n).length<=12:=by
 unfold S6
 split
 .simp;omega
 .simp
theorem Btp (s:List YB) (n:Int):Att (s,()) (n,())=some (S6 s n,()):=by
 unfold Att Ask S6
 simp only[Af,Ah,Aa,Ak,Cm,Ac]
 cases h1:inR (s.length:Int) 1 32 with
 |false=>rw[if_neg zq3];rfl
 |true=>
  cases inR n 0 10000 with
  |false=>rw[if_neg zq3];rfl
  |true=>
   have:=Bx.1 h1
   have h32:(H6 s (Akw++F9 n 4 4)).length=32:=Rc _ _ zq0 (by simp[Fi,Akw])
   simp only[Bool.not_true,Ao]
   rw[Ov _ _ zq3,Ac,Apl,Ac,if_pos ⟨trivial,trivial⟩,show([((114:Int),()),((111:Int),()),((108:Int),()),((108:Int),())]:List YB)=Akw from rfl]
   rw[Ai zq2,Ay,show(12:Int).toNat=12 from rfl,show(0:Int).toNat=0 from rfl,List.drop_zero,Cb _ zq1]
   rfl
theorem Btq (s:List YB) (n:Int):Atc (s,()) (n,())=some (S6 s n,()):=by
 unfold Atc Aqf S6
 simp only[Af,Ah,Aa,Ak,Cy,Ac,List.length_nil,Nat.zero_add,List.nil_append]
 cases h1:inR (s.length:Int) 1 32 with
 |false=>rw[if_neg zq3];rfl
 |true=>
  cases inR n 0 10000 with
  |false=>rw[if_neg zq3];rfl
  |true=>
   have:=Bx.1 h1
   have h32:(H6 s (Akw++F9 n 4 4)).length=32:=Rc _ _ zq0 (by simp[Fi,Akw])
   simp only[Bool.not_true,Ao]
   rw[Lo _ _ zq3,Ac,Apm,Ac,if_pos ⟨trivial,trivial⟩,show([((114:Int),()),((111:Int),()),((108:Int),()),((108:Int),())]:List YB)=Akw from rfl]
   rw[Ai zq2,Ay,show(12:Int).toNat=12 from rfl,show(0:Int).toNat=0 from rfl,List.drop_zero,Ai zq1,Ay]
theorem Bdq (d:Gq) (h:d.1.length<=4294967296):Ac3 d=some d:=by
 unfold Ac3 Alh
 simp only[Ak,Aa,List.length_nil,Nat.zero_add,List.nil_append]
 rw[Ai h];rfl
def Fv (d:Gq):Gq×List YB:=if G3 d=true/\d.2.1≠10000 then((d.1,d.2.1+1,()),S6 d.1 d.2.1)else(d,[])
theorem Bhx (d:Gq):(Fv d).1.1=d.1:=by unfold Fv;split<;>rfl
theorem Bhy (d:Gq):(Fv d).2.length<=12:=by
 unfold Fv
 split
 .exact Bol _ _
 .simp
theorem Az0 (d:Gq) (h:d.1.length<=4294967296):Atu d=some ((Fv d).1,((Fv d).2,())):=by
 unfold Atu A4p Fv
 simp only[Af,Ah,Aa,Bhu,Btp]
 rw[Cb _ h]
 simp only[Ac]
 cases hd:G3 d with
 |false=>rw[if_neg zq3];rfl
 |true=>
  simp only[Bool.not_true,Ao]
  by_cases h1:d.2.1=10000
  .rw[Dv (by simp[h1]),if_neg (fun h=>h.2 h1)]
  .have:=Bx.1 (show inR d.2.1 0 10000=true by unfold G3 at hd;simp only[Bool.and_eq_true]at hd;exact hd.2)
   rw[C4 (by simp[h1]),if_pos ⟨trivial,h1⟩,w64 zq0]
theorem Bhz (d:Gq) (h:d.1.length<=4294967296):Ain d=some ((Fv d).1,((Fv d).2,())):=by
 unfold Ain A34 Fv
 simp only[Af,Ah,Aa,Bhv,Btq]
 rw[Bdq _ h]
 simp only[Ac]
 cases hd:G3 d with
 |false=>rw[if_neg zq3];rfl
 |true=>
  simp only[Bool.not_true,Ao]
  by_cases h1:d.2.1=10000
  .rw[Dv (by simp[h1]),if_neg (fun h=>h.2 h1)]
  .have:=Bx.1 (show inR d.2.1 0 10000=true by unfold G3 at hd;simp only[Bool.and_eq_true]at hd;exact hd.2)
   rw[C4 (by simp[h1]),if_pos ⟨trivial,h1⟩,w64 zq0]
def Az1 (r:List YB):List YB:=if r.length=12 then Ip r (Kq (Dq [106,97,114]))else []
theorem A81 (r:List YB):(Az1 r).length<=32:=by
 unfold Az1
 split
 .have:=Aul r (Kq (Dq [106,97,114]));omega
 .simp
theorem Bh0 (r:List YB):Z0 (r,())=some (Az1 r,()):=by
 unfold Z0 Aqj Az1
 simp only[Af,Ah,Aa]
 rw[Aum _ _ zq7]
 by_cases h:r.length=12
 .rw[if_pos h,C4 (by simp[h])];rfl
 .rw[if_neg h,Dv zq1]
theorem Bom (l:List YBs) (h:l.length+Br Ec l<=4294967296):Ait (l,())=some (l,()):=by
 have hl:=Cs (B:=Lf) l.length (fun i=>(l.take i,l,(l.length:Int),(i:Int),())) (l,())
  (fun i hi=>by
   have hx:=List.getElem?_eq_getElem hi
   have h2:=Ln (f:=Ec) hx
   simp only[Ec]at h2
   unfold Lf
   simp only[Af,Ah,Aa,Ak,Dh hi,A6,B8 hx,Ac]
   rw[Cb _ zq0,Ac,Ai zq1,Ay,w64 zq0]
   exact congrArg (fun t=>some (Sum.inl (t,l,(l.length:Int),(i:Int)+1,()))) (Ff hx))
  (by unfold Lf;simp only[Af,Aa,Di,Ao,List.take_length])
 unfold Ait Ahj
 simp only[Ah,Aa]
 rw[show A0 Lf ([],l,(l.length:Int),(0:Int),())=_ from hl]
 rfl
theorem Brj (l:List YBs) (h:l.length+Br Ec l<=4294967296) (j sd:List YB) (n c:Int) (ss:List Al):
  A0 J0 (l,(0:Int),[],[],[],(0:Int),(0:Int),[],[],[],j,sd,n,c,ss,[],())=some ([],[],[],(0:Int),(0:Int),[],[],l,j,sd,n,c,ss,[],()):=by
 have hl:=Cs (B:=J0) l.length (fun i=>(l,(i:Int),[],[],[],(0:Int),(0:Int),[],[],l.take i,j,sd,n,c,ss,[],())) ([],[],[],(0:Int),(0:Int),[],[],l,j,sd,n,c,ss,[],())
  (fun i hi=>by
   have hx:=List.getElem?_eq_getElem hi
   have h2:=Ln (f:=Ec) hx
   simp only[Ec]at h2
   unfold J0
   simp only[Af,Ah,Aa,Ak,Dh hi,A6,B8 hx,Ac,List.length_nil,Nat.zero_add,List.nil_append]
   rw[Ai zq0,Ay,Ai zq1,Ay,w64 zq0]
   exact congrArg (fun t=>some (Sum.inl (l,(i:Int)+1,[],[],[],(0:Int),(0:Int),[],[],t,j,sd,n,c,ss,[],()))) (Ff hx))
  (by unfold J0;simp only[Af,Aa,Di,Ao,List.take_length])
 exact hl
theorem Brk (k:List YB) (r:Int) (sn:List YB) (ep seq kind:Int) (p:List YB):(Gz k r sn ep seq kind p).2.1=Nc k r sn ep seq kind p:=by
 unfold Gz
 cases Nc k r sn ep seq kind p<;>rfl
theorem Btr (r:Int) (sn:List YB) (ep seq:Int):(((Et r sn ep seq).length:Int)==0)= !H1 r sn ep seq:=by
 rw[Pb]
 cases H1 r sn ep seq<;>rfl
def Az2 (e:YEp):YEp:=(e.1,e.2.1,e.2.2.1+1,e.2.2.2.1,e.2.2.2.2.1,())
theorem Bvo {e:YEp} (h:Hu e=true) (hs:e.2.2.1≠281474976710656):Hu (Az2 e)=true:=by
 unfold Hu at h ⊢
 simp only[Bool.and_eq_true,Bx,Az2]at h ⊢
 exact⟨h.1,h.2.1,⟨by omega,by omega⟩,h.2.2.2⟩
def EpS (e:YEp) (role:Int) (sn:List YB) (k:Int) (p:List YB) (e':YEp) (f:Ap) (c:Int):Prop:=
 Cu e'=Cu e/\Av f<=sn.length+p.length+32/\(c≠0->e'=e)/\(c=0->Hu e=true/\Hu e'=true/\e'.1=e.1/\e'.2.1=e.2.1/\f=(Gz e.2.1 role sn e.1 e.2.2.1 k p).1/\Nc e.2.1 role sn e.1 e.2.2.1 k p=true)
theorem Brl (e:YEp) (role:Int) (sn:List YB) (k:Int) (p:List YB) (h:Cu e+sn.length+p.length<=67108864):
  ∃(e':YEp) (f:Ap) (c:Int),Atz e (role,()) (sn,()) (k,()) (p,())=some (e',f,(c,()))/\At4 e (role,()) (sn,()) (k,()) (p,())=some (e',f,(c,()))/\EpS e role sn k p e' f c:=by
 have hn:=Blh e.2.1 role sn e.1 e.2.2.1 k p
 have he:Cu e=e.2.1.length+e.2.2.2.2.1.length:=rfl
 have none: ∀ {c:Int},c≠0-> ∃(e':YEp) (f:Ap) (c':Int),some (e,H2,(c,()))=some (e',f,(c',()))/\some (e,H2,(c,()))=some (e',f,(c',()))/\EpS e role sn k p e' f c':=fun {c} hc=>
  ⟨e,H2,c,rfl,rfl,rfl,by simp[Av,H2],fun _=>rfl,fun h=>(hc h).elim⟩
 unfold Atz Ass At4 As3
 simp only[Af,Ah,Aa]
 rw[A5l e zq0,Auj e zq0,A8r e zq0,Bhh e]
 simp only[Ac]
 cases ho:Hu e with
 |false=>exact none (c:=1) zq7
 |true=>
  have hk:((e.2.1.length:Int)==32)=true:=by unfold Hu at ho;simp only[Bool.and_eq_true]at ho;exact ho.2.1
  have hseq:inR e.2.2.1 0 281474976710656=true:=by unfold Hu at ho;simp only[Bool.and_eq_true]at ho;exact ho.2.2.1
  rw[Bx]at hseq
  simp only[Bool.not_true,Ao]
  rw[Brd _ _ _ _ _ _ _ zq0 zq0,Ac,Aui,Ac,Wt,Ac,A5i,Ac]
  simp only[Brk,Btr]
  unfold Nc
  rw[hk]
  simp only[Bool.true_and]
  cases hd:H1 role sn e.1 0 with
  |false=>exact none (c:=1) zq7
  |true=>
   cases hkd:inR k 4 8 with
   |false=>exact none (c:=1) zq7
   |true=>
    cases hb:Jo k (p.length:Int)with
    |false=>exact none (c:=1) zq7
    |true=>
     simp only[Bool.and_self,Bool.not_true,Ao]
     have fin:e.2.2.1≠281474976710656-> ∃(e':YEp) (f:Ap) (c':Int),some (Az2 e,(Gz e.2.1 role sn e.1 e.2.2.1 k p).1,((0:Int),()))=some (e',f,(c',()))/\some (Az2 e,(Gz e.2.1 role sn e.1 e.2.2.1 k p).1,((0:Int),()))=some (e',f,(c',()))/\EpS e role sn k p e' f c':=fun hs=>
      ⟨Az2 e,_,0,rfl,rfl,rfl,hn,fun h=>(h rfl).elim,fun _=>⟨ho,Bvo ho hs,rfl,rfl,rfl,by
       unfold Nc
       rw[hk,hkd,hb]
       unfold H1 at hd ⊢
       simp only[Bool.and_eq_true,Bx,Bool.and_true]at hd ⊢
       exact⟨trivial,hd.1,hd.2.1,hd.2.2.1,by omega,by omega⟩⟩⟩
     rw[Brd _ _ _ _ _ _ _ zq0 zq0,Bre _ _ _ _ _ _ _ zq0 zq0]
     simp only[Ac]
     have go:br (e.2.2.1==(281474976710656:Int)) (some (e,H2,((5:Int),()))) (some ((e.1,e.2.1,(IntKind.i64.wrap (e.2.2.1+(1:Int))),e.2.2.2.1,e.2.2.2.2.1,()),(Gz e.2.1 role sn e.1 e.2.2.1 k p).1,((0:Int),())))=if e.2.2.1=281474976710656 then some (e,H2,((5:Int),()))else some (Az2 e,(Gz e.2.1 role sn e.1 e.2.2.1 k p).1,((0:Int),())):=by
      by_cases h5:e.2.2.1=281474976710656
      .rw[if_pos h5,Dv (by simp[h5])]
      .rw[if_neg h5,C4 (by simp[h5]),w64 zq0];rfl
     have fin2: ∃(e':YEp) (f:Ap) (c':Int),(if e.2.2.1=281474976710656 then some (e,H2,((5:Int),()))else some (Az2 e,(Gz e.2.1 role sn e.1 e.2.2.1 k p).1,((0:Int),())))=some (e',f,(c',()))/\(if e.2.2.1=281474976710656 then some (e,H2,((5:Int),()))else some (Az2 e,(Gz e.2.1 role sn e.1 e.2.2.1 k p).1,((0:Int),())))=some (e',f,(c',()))/\EpS e role sn k p e' f c':=by
      by_cases h5:e.2.2.1=281474976710656
      .rw[if_pos h5];exact none (c:=5) zq7
      .rw[if_neg h5];exact fin h5
     cases hk4:(k==(4:Int))with
     |false=>
      simp only[Ao]
      exact go▸fin2
     |true=>
      simp only[A6]
      by_cases h4:e.2.2.1≥281474976709656
      .rw[Ai h4,A6];exact none (c:=4) zq7
      .rw[Bt h4,Ao]
       exact go▸fin2
def Hc (c:Au) (e:YEp):Au:=(c.1,c.2.1,e.1,e.2.1,e.2.2.1,e.2.2.2.1,e.2.2.2.2.1,c.2.2.2.2.2.2.2.1,c.2.2.2.2.2.2.2.2.1,c.2.2.2.2.2.2.2.2.2.1,c.2.2.2.2.2.2.2.2.2.2.1,c.2.2.2.2.2.2.2.2.2.2.2.1,c.2.2.2.2.2.2.2.2.2.2.2.2.1,c.2.2.2.2.2.2.2.2.2.2.2.2.2.1,c.2.2.2.2.2.2.2.2.2.2.2.2.2.2.1,())
theorem A82 {c:Au} {e:YEp} (h:Cz c=true) (he:Hu e=true) (h1:e.1=c.2.2.1):Cz (Hc c e)=true:=by
 have e1:N0 (Hc c e)=e:=rfl
 have e2:Ps (Hc c e)=Ps c:=by
  unfold Ps
  have:(Hc c e).2.2.1=c.2.2.1:=h1
  simp only[this]
  rfl
 unfold Cz at h ⊢
 rw[e1,e2]
 simp only[Bool.not_not,Bool.and_eq_true]at h ⊢
 refine⟨h.1,h.2.1,he,h.2.2.2.1,?_⟩
 have:=h.2.2.2.2
 simp only[Hc,Na,h1]at this ⊢
 exact this
theorem Bh1 (c:Au) (e:YEp) (h:Cu e=Cu (N0 c)):A9 (Hc c e)=A9 c:=by
 simp only[Cu,N0]at h
 simp only[A9,Hc]
 omega
def ChS (c:Au) (k:Int) (p:List YB) (c':Au) (f:Ap) (z:Int):Prop:=
 ∃e':YEp,c'=Hc c e'/\A9 c'=A9 c/\Av f<=A9 c+p.length+32/\(z≠0->c'=c)/\
  (z=0->Cz c=true/\Cz c'=true/\e'.1=c.2.2.1/\e'.2.1=c.2.2.2.1/\f=(Gz c.2.2.2.1 c.1 c.2.1 c.2.2.1 c.2.2.2.2.1 k p).1/\Nc c.2.2.2.1 c.1 c.2.1 c.2.2.1 c.2.2.2.2.1 k p=true)
theorem G6 (c:Au) (k:Int) (p:List YB) (h:A9 c+p.length<=67108864):
  ∃(c':Au) (f:Ap) (z:Int),Ct c (k,()) (p,())=some (c',f,(z,()))/\Du c (k,()) (p,())=some (c',f,(z,()))/\ChS c k p c' f z:=by
 have hc:=h
 simp only[A9]at hc
 unfold Ct Aia Du Aif
 simp only[Af,Ah,Aa]
 rw[Uh c zq0,S5 c zq0,Wq c Ba9 Bba,S3 c]
 simp only[Ac]
 cases ho:Cz c with
 |false=>exact⟨c,H2,1,rfl,rfl,N0 c,rfl,rfl,by simp[Av,H2],fun _=>rfl,fun h=>by cases h⟩
 |true=>
  simp only[Bool.not_true,Ao]
  obtain⟨e',f,z,h1,h2,h3,h4,h5,h6⟩:=Brl (N0 c) c.1 c.2.1 k p (by simp only[Cu,N0];omega)
  have hn:=Bh1 c e' h3
  rw[h1,h2,Ac,Ac]
  have hf:Av f<=A9 c+p.length+32:=by simp only[A9];omega
  by_cases hz:z=0
  .subst hz
   obtain⟨q1,q2,q3,q4,q5,q6⟩:=h6 rfl
   exact⟨Hc c e',f,0,rfl,rfl,e',rfl,hn,hf,fun h=>(h rfl).elim,fun _=>⟨ho,A82 ho q2 q3,q3,q4,q5,q6⟩⟩
  .have he:=h5 hz
   subst he
   refine⟨c,f,z,rfl,?_,N0 c,rfl,rfl,hf,fun _=>rfl,fun h=>(hz h).elim⟩
   rw[C4 (by simpa using hz)]
def Vk (n:Int):List YB:=bif inR n 0 4294967295 then F9 n 4 4 else []
theorem Bdr (n:Int):(Vk n).length<=4:=by unfold Vk;cases inR n 0 4294967295<;>simp[Fi]
theorem A3a (n:Int):V7 (n,())=some (Vk n,()):=by
 unfold V7 Ae2 Vk
 simp only[Af,Ah,Aa,Cm,Ac]
 cases inR n 0 4294967295 with
 |false=>rfl
 |true=>simp only[Bool.not_true,Ao];rw[Ov _ _ zq3,Ac];rfl
theorem Anp (n:Int):Fp (n,())=some (Vk n,()):=by
 unfold Fp Aeq Vk
 simp only[Af,Ah,Aa,Cy,Ac]
 cases inR n 0 4294967295 with
 |false=>rfl
 |true=>simp only[Bool.not_true,Ao];rw[Lo _ _ zq3,Ac];rfl
theorem A83 (c:Au) (h:A9 c<=67000000):
  ∃(c':Au) (f:Ap) (z:Int),Agn c=some (c',f,(z,()))/\Apa c=some (c',f,(z,()))/\A9 c'=A9 c/\Av f<=A9 c+36/\(z=0->ChS c 8 (Vk c.2.2.1) c' f 0):=by
 have hc:=h
 have hl:=Bdr c.2.2.1
 simp only[A9]at hc
 unfold Agn Bav Apa Ba0
 simp only[Af,Ah,Aa]
 rw[Uh c zq0,S5 c zq0,Wq c Ba9 Bba,S3 c]
 simp only[Ac]
 cases ho:Cz c with
 |false=>exact⟨c,H2,6,rfl,rfl,rfl,by simp[Av,H2],fun h=>by cases h⟩
 |true=>
  simp only[Bool.not_true,Ao]
  cases hx:(c.1 != (1:Int))with
  |true=>exact⟨c,H2,6,rfl,rfl,rfl,by simp[Av,H2],fun h=>by cases h⟩
  |false=>
   simp only[Ao]
   rw[A3a,Anp,Ac,Ac]
   obtain⟨c',f,z,h1,h2,h3⟩:=G6 c 8 (Vk c.2.2.1) zq0
   rw[h1,h2,Ac]
   have h3':=h3
   obtain⟨e',q1,q2,q3,q4,q5⟩:=h3
   exact⟨c',f,z,rfl,rfl,q2,by omega,fun hz=>hz▸h3'⟩
def L9 (k b:List YB):Aq:=((15:Int),(0:Int),(0:Int),[],[],(0:Int),(0:Int),b,k,(0:Int),(0:Int),(0:Int),())
theorem A84 (k b:List YB) (h1:k.length<=4294967296) (h2:b.length<=4294967296):Atw (k,()) (b,())=some (L9 k b):=by
 unfold Atw A4t L9
 simp only[Ah,Aa]
 rw[Cb _ h1,Ac,Cb _ h2,Ac]
theorem Brm (k b:List YB) (h1:k.length<=4294967296) (h2:b.length<=4294967296):At3 (k,()) (b,())=some (L9 k b):=by
 unfold At3 A43 L9
 simp only[Ak,Aa,List.length_nil,Nat.zero_add,List.nil_append]
 rw[Ai h1,Ay,Ai h2,Ay]
def Hd (c:Au) (f:Ap):Aq:=L9 c.2.2.2.1 (D9 c.1 f)
theorem Iq (c:Au) (f:Ap) (h1:c.2.2.2.1.length<=4294967296) (h2:Av f<=536870912):Ii c f=some (Hd c f):=by
 have ht:=Adc c.1 f
 unfold Ii Ast Hd
 simp only[Ah,Aa]
 rw[Ug _ _ h2,Ac,A84 _ _ h1 zq0,Ac]
theorem Js (c:Au) (f:Ap) (h1:c.2.2.2.1.length<=4294967296) (h2:Av f<=536870912):Hp c f=some (Hd c f):=by
 have ht:=Adc c.1 f
 unfold Hp Am2 Hd
 simp only[Ah,Aa]
 rw[Aan _ _ h2,Ac,Brm _ _ h1 zq0,Ac]
theorem Bon (c:Au) (f:Ap):Gm (Hd c f)<=A9 c+Av f+32:=by
 have ht:=Adc c.1 f
 simp only[Gm,Hd,L9,A9,List.length_nil]
 omega
theorem Fc (c:Au):c.2.2.2.1.length<=A9 c:=by simp only[A9];omega
theorem Ade (s:Al):A9 (Cj s)<=A5 s:=by simp only[A9,Cj,A5];omega
def Aao (s:Al) (c:Au):Al:=(s.1,s.2.1,s.2.2.1,c.1,c.2.1,c.2.2.1,c.2.2.2.1,c.2.2.2.2.1,c.2.2.2.2.2.1,c.2.2.2.2.2.2.1,c.2.2.2.2.2.2.2.1,c.2.2.2.2.2.2.2.2.1,c.2.2.2.2.2.2.2.2.2.1,c.2.2.2.2.2.2.2.2.2.2.1,c.2.2.2.2.2.2.2.2.2.2.2.1,c.2.2.2.2.2.2.2.2.2.2.2.2.1,c.2.2.2.2.2.2.2.2.2.2.2.2.2.1,c.2.2.2.2.2.2.2.2.2.2.2.2.2.2.1,s.2.2.2.2.2.2.2.2.2.2.2.2.2.2.2.2.2.2)
theorem Bli {s:Al} {c:Au} (h:A9 c<=A9 (Cj s)):A5 (Aao s c)<=A5 s:=by
 simp only[A9,Cj]at h
 simp only[A5,Aao];omega
theorem Brn {s:Al} {c:Au} (h:Dk s=true) (hd:Dd s=false) (hc:Cz c=true) (h1:c.1=(Cj s).1) (h2:c.2.1=(Cj s).2.1):Dk (Aao s c)=true:=by
 have e1:Dd (Aao s c)=Dd s:=rfl
 have e2:Cj (Aao s c)=c:=rfl
 have e3:Bm (Aao s c)=Bm s:=rfl
 unfold Dk at h ⊢
 rw[e1,e2,e3]
 rw[hd]at h ⊢
 simp only[cond_false,Bool.and_eq_true]at h ⊢
 refine⟨h.1,h.2.1,h.2.2.1,h.2.2.2.1,hc,?_,?_,h.2.2.2.2.2.2.2⟩
 .have:=h.2.2.2.2.2.1
  simp only[Aao,h1,Cj];exact this
 .have:=h.2.2.2.2.2.2.1
  simp only[Aao,h2,Cj];exact this
def SeR (s:Al) (m:Nat) (r:Al) (os:List Az) (ns:List Aq):Prop:=
 A5 r<=A5 s/\os.length+Br Ij os<=A5 s+m+99/\ns.length+Br Gm ns<=4*(A5 s+m+99)/\(Dk s=true->Dd s=false->Dk r=true/\r.2.2.1=s.2.2.1/\Dd r=false)
theorem SeR.none {s:Al} {m:Nat}:SeR s m s [] []:=⟨Nat.le_refl _,by simp[Br],by simp[Br],fun h hd=>⟨h,rfl,hd⟩⟩
theorem A85 (s:Al) (h:A5 s<=8388608):
  ∃r os ns,K7 s=some (r,(os,()),(ns,()))/\Vi s=some (r,(os,()),(ns,()))/\SeR s 0 r os ns:=by
 have hch:=Ade s
 unfold K7 Ac1 Vi Am3
 simp only[Af,Ah,Aa,Ak]
 rw[Nd s zq0,Ad3 s zq0,Wr s zq0,Ai5 s zq0]
 simp only[Ac]
 have nope: ∃r os ns,some (s,(([]:List Az),()),(([]:List Aq),()))=some (r,(os,()),(ns,()))/\some (s,(([]:List Az),()),(([]:List Aq),()))=some (r,(os,()),(ns,()))/\SeR s 0 r os ns:=
  ⟨s,[],[],rfl,rfl,.none⟩
 cases ho:Dk s with
 |false=>exact nope
 |true=>
  simp only[Bool.not_true,Ao]
  by_cases hd0:s.2.2.2.2.2.2.2.2.2.2.2.2.2.2.2.2.2.2.2.2.2.2.2.1=true
  .rw[Dv hd0,Dv hd0];exact nope
  .have hd:s.2.2.2.2.2.2.2.2.2.2.2.2.2.2.2.2.2.2.2.2.2.2.2.1=false:=by simpa using hd0
   rw[C4 hd,C4 hd]
   cases (s.2.2.2.2.2.1 != (0:Int))with
   |true=>exact nope
   |false=>
    simp only[Ao]
    obtain⟨c',f,z,a1,a2,a3,a4,a5⟩:=A83 (Cj s) zq0
    rw[a1,a2]
    simp only[Ac]
    have hk:=Fc c'
    have hm:=Bon c' f
    by_cases z0:z=0
    .have ez:(z != (0:Int))=false:=by simp[z0]
     simp only[ez,Ao]
     rw[Iq _ _ zq0 zq0,Js _ _ zq0 zq0]
     simp only[Ac]
     obtain⟨e',q1,q2,q3,q4,q5⟩:=a5 z0
     obtain⟨r1,r2,r3⟩:=q5 rfl
     refine⟨Aao s c',_,_,rfl,rfl,Bli zq0,?_,?_,fun _ _=>⟨Brn ho hd r2 (by rw[q1];rfl) (by rw[q1];rfl),rfl,hd⟩⟩
     .simp only[Br,Ij,List.length_cons,List.length_nil]
      simp only[Av]at a4;omega
     .simp only[Br,List.length_cons,List.length_nil];omega
    .have ez:(z != (0:Int))=true:=by simpa using z0
     simp only[ez,A6]
     exact nope
theorem Afe (l:List An) (h:l.length<=4294967296):M4 (l,())=some (l,()):=by
 unfold M4 Zd
 simp only[Ak,Aa,List.length_nil,Nat.zero_add,List.nil_append]
 rw[Ai h];rfl
theorem Bh2 (s:Bc) (h:Bh s<=4294967296):Abn s=some s:=by
 have h':=h
 simp only[Bh]at h
 unfold Abn Abh
 simp (disch:=first|omega|(dsimp only;omega)|(simp only[Cf];omega)) only[Ah,Aa,Bom,Cb,Akv,Afe,Ac]
theorem Bro (s:Bc) (h:Bh s<=4294967296):Ang s=some s:=by
 obtain⟨l,j,sd,n,c,ss,cr,⟨⟩⟩:=s
 simp only[Bh]at h
 have hl:=Cs (B:=Mk) l.length (fun i=>((i:Int),l,j,sd,n,c,ss,cr,[],[],[],(0:Int),(0:Int),[],[],l.take i,j,sd,n,c,ss,cr,())) ([],[],[],(0:Int),(0:Int),[],[],l,j,sd,n,c,ss,cr,())
  (fun i hi=>by
   have hx:=List.getElem?_eq_getElem hi
   have h2:=Ln (f:=Ec) hx
   simp only[Ec]at h2
   unfold Mk
   simp only[Af,Ah,Aa,Ak,Dh hi,A6,B8 hx,Ac,List.length_nil,Nat.zero_add,List.nil_append]
   rw[Ai zq0,Ay,Ai zq1,Ay,w64 zq0]
   exact congrArg (fun t=>some (Sum.inl ((i:Int)+1,l,j,sd,n,c,ss,cr,[],[],[],(0:Int),(0:Int),[],[],t,j,sd,n,c,ss,cr,()))) (Ff hx))
  (by unfold Mk;simp only[Af,Aa,Di,Ao,List.take_length])
 unfold Ang Amy
 simp only[Ah,Ak,Aa,List.length_nil,Nat.zero_add,List.nil_append]
 rw[Ai zq0,Ay,Bdq _ zq2,Bdo _ (by simp only[Cf];omega)]
 simp only[Ac]
 rw[Ai zq0,Ay]
 rw[show A0 Mk ((0:Int),l,j,sd,n,c,ss,cr,[],[],[],(0:Int),(0:Int),[],[],[],j,sd,n,c,ss,cr,())=_ from hl]
 rfl
def wfB (l:List YB):Prop:=∀(i:Nat) (x:YB),l[i]? =some x->0<=x.1/\x.1<=255
theorem Bh3 {a:YB} {l:List YB} (h:wfB (a::l)):(0<=a.1/\a.1<=255)/\wfB l:=⟨h 0 a rfl,fun i x hx=>h (i+1) x (by simpa using hx)⟩
theorem Bw1 {n m:Int} (hn:0<=n/\n<=255) (hm:0<=m/\m<=255) (h:UInt8.ofNat n.toNat=UInt8.ofNat m.toNat):n=m:=by
 have:=congrArg UInt8.toNat h
 simp only[UInt8.toNat_ofNat']at this
 omega
theorem Bml: ∀ {a b:List YB},wfB a->wfB b->(a.map fun d=>UInt8.ofNat (Int.toNat d.1))=(b.map fun d=>UInt8.ofNat (Int.toNat d.1))->a=b
 |[],[],_,_,_=>rfl
 |x::a,y::b,ha,hb,h=>by
  simp only[List.map_cons,List.cons.injEq]at h
  obtain⟨x1,x2⟩:=Bh3 ha
  obtain⟨y1,y2⟩:=Bh3 hb
  have e:=Bw1 x1 y1 h.1
  have e2:=Bml x2 y2 h.2
  obtain⟨n,⟨⟩⟩:=x
  obtain⟨m,⟨⟩⟩:=y
  simp only at e
  rw[e,e2]
 |[],_::_,_,_,h=>by simp at h
 |_::_,[],_,_,h=>by simp at h
theorem Bh4 {a b:List YB} (ha:wfB a) (hb:wfB b) (h:Cv a b=true):a=b:=by
 unfold Cv at h
 have h1:Ht a=Ht b:=by simpa using h
 unfold Ht at h1
 simp only[ByteArray.mk.injEq]at h1
 exact Bml ha hb (by simpa using h1)
theorem Brp {k:List YB} {r:Int} {sn:List YB} {ep seq kind:Int} {p:List YB} (h:Nc k r sn ep seq kind p=true):(Gz k r sn ep seq kind p).1.2.2.2.1=sn:=by
 unfold Gz
 rw[h];rfl
def Fx (l:List Al):Nat:=l.countP fun x=> !Dd x
theorem Kw (t:Ck) (h:t.2.1.length<=4294967296):E0 t=(Fx t.2.1:Nat):=by
 obtain⟨cap,l,⟨⟩⟩:=t
 simp only at h
 have hl:=Cs (B:=Ko) l.length (fun i=>(((Fx (l.take i):Nat):Int),l,(l.length:Int),(i:Int),())) (((Fx l:Nat):Int),())
  (fun i hi=>by
   have hx:=List.getElem?_eq_getElem hi
   have hc:Fx (l.take (i+1))=Fx (l.take i)+(if Dd l[i]=true then 0 else 1):=by
    rw[<-Ff hx]
    unfold Fx
    rw[List.countP_append]
    cases hd:Dd l[i]<;>simp[List.countP_cons,hd]
   have hle:Fx (l.take i)<=i:=by
    have:=List.countP_le_length (p:=fun x=> !Dd x) (l:=l.take i)
    simp only[List.length_take]at this
    unfold Fx;omega
   unfold Ko
   simp (disch:=omega) only[Af,Ah,Aa,Dh hi,A6,B8 hx,Ac,w64]
   simp only[Bhg]
   rw[hc]
   split
   .rename_i h1
    have h2:Dd l[i]=false:=by simpa using h1
    rw[if_neg (by rw[h2];decide)]
    simp
   .rename_i h1
    have h2:Dd l[i]=true:=by simpa using h1
    rw[if_pos h2]
    simp)
  (by unfold Ko;simp only[Af,Aa,Di,Ao,List.take_length])
 unfold E0 Wl Ar0
 simp only[Ah,Aa]
 rw[show A0 Ko ((0:Int),l,(l.length:Int),(0:Int),())=_ from hl]
 rfl
theorem Bh5 {E:Type} {q:E->Bool}: ∀ {l:List E} {i k:Nat} {x y:E},l[i]? =some x->q y=q x->Im (fun _ z=>q z) (l.set i y) k=Im (fun _ z=>q z) l k
 |[],i,k,x,y,h,_=>by simp at h
 |a::r,0,k,x,y,h,e=>by
  simp at h;subst h
  simp only[List.set_cons_zero,Im,e]
 |a::r,i+1,k,x,y,h,e=>by
  simp only[List.set_cons_succ,Im]
  rw[Bh5 (l:=r) (i:=i) (by simpa using h) e]
theorem A86 {l:List Al} {i:Nat} {x y:Al} (hx:l[i]? =some x) (h:y.2.2.1=x.2.2.1) (s:List YB):Es (l.set i y) s=Es l s:=by
 unfold Es Mb
 rw[Bh5 (q:=fun x=>Cv x.2.2.1 s) hx (by simp only[h])]
theorem Bds: ∀ {l:List Al} {i:Nat} {x y:Al},l[i]? =some x->(Dd y=true\/Dd y=Dd x)->Fx (l.set i y)<=Fx l
 |[],i,x,y,h,_=>by simp at h
 |a::r,0,x,y,h,e=>by
  simp at h;subst h
  simp only[List.set_cons_zero,Fx,List.countP_cons]
  rcases e with e|e
  .rw[e];simp
  .rw[e];exact Nat.le_refl _
 |a::r,i+1,x,y,h,e=>by
  have:=Bds (l:=r) (i:=i) (x:=x) (y:=y) (by simpa using h) e
  simp only[List.set_cons_succ,Fx,List.countP_cons]at this ⊢
  omega
theorem Bdt {t:Ck} {i:Nat} {x y:Al} (hl:t.2.1.length<=4294967296) (ht:Je t=true) (hx:t.2.1[i]? =some x) (ho:Dk y=true) (hs:y.2.2.1=x.2.2.1) (hd:Dd y=true\/Dd y=Dd x):Je (t.1,t.2.1.set i y,())=true:=by
 unfold Je at ht ⊢
 simp only[Bool.and_eq_true]at ht ⊢
 refine⟨ht.1,by simpa using ht.2.1,?_,?_⟩
 .have h1:=ht.2.2.1
  rw[Kw t hl]at h1
  rw[Kw _ (by simpa using hl)]
  have h2:=Bds hx hd
  simp only[Bool.not_eq_true',decide_eq_false_iff_not]at h1 ⊢
  have h1': ¬((Fx t.2.1:Nat):Int)>t.1:=h1
  have h2':Fx (t.2.1.set i y)<=Fx t.2.1:=h2
  show ¬((Fx (t.2.1.set i y):Nat):Int)>t.1
  omega
 .have h1:=H0.1 ht.2.2.2
  refine H0.2 fun j z hz=>?_
  rw[List.getElem?_set]at hz
  unfold Lm
  by_cases hij:i=j
  .subst hij
   have hlt:i<t.2.1.length:=(List.getElem?_eq_some_iff.1 hx).1
   rw[if_pos rfl,if_pos hlt]at hz
   simp only[Option.some.injEq]at hz
   subst hz
   have h3:=h1 i x hx
   unfold Lm at h3
   rw[A86 hx hs,hs,ho]
   simp only[Bool.not_eq_false',Bool.and_eq_true]at h3 ⊢
   exact⟨trivial,h3.2⟩
  .rw[if_neg hij]at hz
   have h3:=h1 j z hz
   unfold Lm at h3
   rw[A86 hx hs]
   exact h3
theorem Boo (t:Ck) (n:YI) (s x:Al) (h:Cf t+A5 s<=1073741824) (ht:Je t=true) (h0:0<=n.1) (hx:t.2.1[n.1.toNat]? =some x) (ho:Je (t.1,t.2.1.set n.1.toNat s,())=true):
  Ho t n s=some ((t.1,t.2.1.set n.1.toNat s,()),(true,())):=by
 have hl:t.2.1.length<=Cf t:=by simp only[Cf];omega
 have hlt:n.1.toNat<t.2.1.length:=(List.getElem?_eq_some_iff.1 hx).1
 have hn:Cf (t.1,t.2.1.set n.1.toNat s,())<=Cf t+A5 s:=by
  have:=A5m (f:=A5) (l:=t.2.1) (i:=n.1.toNat) (x:=s)
  simp only[Cf,List.length_set];omega
 unfold Ho Amx
 simp only[Af,Ah,Aa,Ak]
 rw[Akv t zq0,Apg t zq0,Nd s zq0]
 simp only[Ac,ht,Bool.not_true,Ao]
 rw[Bt zq0,Ao,Bt zq0,Ao]
 have hid:idx t.2.1 n.1=some x:=by unfold idx;rw[if_pos h0];exact hx
 rw[hid]
 simp only[Ac]
 rw[Apg _ zq0]
 simp only[Ac,ho,Bool.not_true,Ao]
theorem Anq {E:Type} {p:E->Bool} {l:List E} {i:Nat} {x:E} (hx:l[i]? =some x):(l.take (i+1)).filter p=(l.take i).filter p++(bif p x then [x]else []):=by
 rw[<-Ff hx,List.filter_append]
 cases h:p x<;>simp[List.filter_cons,h]
theorem Az3 {E:Type} {p:E->Bool} {l:List E} {i:Nat}:((l.take i).filter p).length<=i:=by
 have:=List.length_filter_le p (l.take i)
 simp only[List.length_take]at this;omega
theorem Anr {E:Type} {f:E->Nat} {p:E->Bool}: ∀ {l:List E},Br f (l.filter p)<=Br f l
 |[]=>by simp[Br]
 |a::r=>by
  have:=Anr (f:=f) (p:=p) (l:=r)
  simp only[List.filter_cons]
  split<;>simp only[Br]<;>omega
theorem Bvp (n:Nat):Nat.beq n n=true:=Nat.beq_refl n
theorem Bw2 {i:Nat}:Nat.ble (Int.toNat (i:Int)+1) (Int.toNat ((i:Int)+1))=true:=by
 rw[show Int.toNat (i:Int)=i by omega,show Int.toNat ((i:Int)+1)=i+1 by omega]
 exact Nat.ble_eq_true_of_le (Nat.le_refl _)
def Nf (n:Int) (x:Bb):Bool:=decide (x.2.2.2.1≥n)
def Ez (p:Bn) (n:Int):Bn:=(p.1,p.2.1,p.2.2.1.filter (Nf n),())
theorem Wv (p:Bn) (n:YI) (h:Bd p<=4294967296):Sy p n=some (Ez p n.1):=by
 have h':=h
 obtain⟨a,b,l,⟨⟩⟩:=p
 simp only[Bd]at h'
 have hl:=Cs (B:=Gd) l.length (fun i=>(n.1,l,(l.length:Int),(i:Int),(0:Int),(0:Int),([]:List Bb),a,b,(l.take i).filter (Nf n.1),())) ((0:Int),(0:Int),([]:List Bb),a,b,l.filter (Nf n.1),())
  (fun i hi=>by
   have hx:=List.getElem?_eq_getElem hi
   have hle:=Az3 (p:=Nf n.1) (l:=l) (i:=i)
   have hs:=Anq (p:=Nf n.1) hx
   unfold Gd
   simp only[Af,Ah,Aa,Ak,Dh hi,A6,B8 hx,Ac,Bvp,Ay]
   rw[w64 zq0,Bw2]
   simp only[Ay]
   rw[hs]
   have hp:Nf n.1 l[i]=decide (l[i].2.2.2.1≥n.1):=rfl
   rw[hp]
   cases decide (l[i].2.2.2.1≥n.1)with
   |false=>simp[Ao]
   |true=>
    simp only[A6,cond_true]
    rw[Ai zq1,Ay]
    rfl)
  (by unfold Gd;simp only[Af,Aa,Di,Ao,List.take_length])
 unfold Sy Mx
 simp only[Ah,Aa]
 rw[Nv _ h]
 simp only[Ac]
 rw[show A0 Gd (n.1,l,(l.length:Int),(0:Int),(0:Int),(0:Int),([]:List Bb),a,b,([]:List Bb),())=_ from hl]
 rfl
theorem A3b (p:Bn) (n:Int):Bd (Ez p n)<=Bd p:=by
 have h1:=List.length_filter_le (Nf n) p.2.2.1
 have h2:=Anr (f:=D0) (p:=Nf n) (l:=p.2.2.1)
 simp only[Bd,Ez];omega
def S7 (p:Bn) (n:Int):Bn:=bif E8 p && inR n 0 1000000 then Ez p n else p
theorem Bop (p:Bn) (n:YI) (h:Bd p<=4294967296):Aiq p n=some (S7 p n.1):=by
 have h':=h
 have hl0:p.2.2.1.length<=Bd p:=by simp only[Bd];omega
 unfold Aiq Aha S7
 simp only[Af,Ah,Aa]
 rw[Akt p zq0,Cy,Xc p h]
 simp only[Ac]
 obtain⟨a,b,l,⟨⟩⟩:=p
 simp only[Bd]at h'
 have hl:=Cs (B:=Le) l.length (fun i=>(n.1,(i:Int),a,b,l,(0:Int),(0:Int),([]:List Bb),a,b,(l.take i).filter (Nf n.1),())) ((0:Int),(0:Int),([]:List Bb),a,b,l.filter (Nf n.1),())
  (fun i hi=>by
   have hx:=List.getElem?_eq_getElem hi
   have hle:=Az3 (p:=Nf n.1) (l:=l) (i:=i)
   have hs:=Anq (p:=Nf n.1) hx
   have hn:=Ln (f:=D0) hx
   unfold Le
   simp only[Af,Ah,Aa,Ak,Dh hi,A6,B8 hx,Ac]
   rw[w64 zq0,hs,Aku _ zq0]
   simp only[Ac]
   have hp:Nf n.1 l[i]=decide (l[i].2.2.2.1≥n.1):=rfl
   rw[hp]
   cases decide (l[i].2.2.2.1≥n.1)with
   |false=>simp[Ao]
   |true=>
    simp only[A6,cond_true]
    rw[Ai zq1,Ay]
    rfl)
  (by unfold Le;simp only[Af,Aa,Di,Ao,List.take_length])
 rw[show A0 Le (n.1,(0:Int),a,b,l,(0:Int),(0:Int),([]:List Bb),a,b,([]:List Bb),())=_ from hl]
 cases E8 (a,b,l,())<;>cases inR n.1 0 1000000<;>rfl
theorem Az4 (s:Al):Bd (Bm s)<=A5 s:=by simp only[Bd,Bm,A5];omega
end
end Go.Proofs.YthccfdmiejmbaaaGreat
