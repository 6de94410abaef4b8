/-
  That the program and the reference answer alike, in plain terms, and that the laws answer true.
-/
import Derived.Test.YthccfdmiejmbaaaGreatH
namespace Go.Proofs.YthccfdmiejmbaaaGreat
open Go.RowKit
set_option linter.unusedVariables false
set_option linter.unusedSimpArgs false
set_option maxHeartbeats 4000000
noncomputable section
def inR (n lo hi:Int):Bool:=decide (lo<=n) && decide (n<=hi)
theorem Cf (n lo hi:YI):Be n lo hi=some (inR n.1 lo.1 hi.1,()):=by
 unfold Be Atr inR
 simp only[Ad,Aa,Awd]
 split<;>rename_i h<;>simp at h<;>simp[h]
 all_goals omega
theorem C4 (n lo hi:YI):Bl n lo hi=some (inR n.1 lo.1 hi.1,()):=by
 unfold Bl A6a inR
 simp only[Ad,Aa,Awd]
 split<;>rename_i h<;>simp at h<;>simp[h]
 all_goals omega
def Cm (a b:List YB):Bool:=decide (H8 a=H8 b)
theorem Tu (a b:YBs):M8 a b=some (Cm a.1 b.1,()):=rfl
theorem Ge (a b:YBs):Ca a b=some (Cm a.1 b.1,()):=rfl
theorem Bpu (t:B8) (h:t.2.1.length<=4294967296): ∃r,Xj t=some r/\Aj0 t=some r:=by
 obtain⟨cap,l,_⟩:=t
 simp only at h
 obtain⟨o1,o2,h1,h2,hq⟩:=Xo (B1:=Kk) (B2:=Z5)
  (fun i d1 d2=>∃n:Int,0<=n/\n<=i/\d1=(n,l,(l.length:Int),(i:Int),())/\d2=(n,(i:Int),cap,l,())) (fun o1 o2=>o1=o2) l.length
  (by
   rintro i d1 d2 hi ⟨n,h0,h1,rfl,rfl⟩
   have hx:=List.getElem?_eq_getElem hi
   left
   unfold Kk Z5
   simp (disch:=omega) only[Ad,Ae,Aa,Bw hi,Ay,Bc hx,Ab,w64]
   simp only[Awd]
   split
   .exact⟨_,_,rfl,rfl,n+1,by omega,by omega,rfl,rfl⟩
   .exact⟨_,_,rfl,rfl,n,by omega,by omega,rfl,rfl⟩)
  (by
   rintro d1 d2 ⟨n,h0,h1,rfl,rfl⟩
   unfold Kk Z5
   simp only[Ad,Ae,Aa,B7,Aj]
   exact⟨_,_,rfl,rfl,rfl⟩)
  (d1:=((0:Int),l,(l.length:Int),(0:Int),())) (d2:=((0:Int),(0:Int),cap,l,())) ⟨0,by omega,by omega,rfl,rfl⟩
 subst hq
 refine⟨(o1.1,()),?_,?_⟩
 .unfold Xj Atv
  simp only[Ae,Aa,h1,Ab]
 .unfold Aj0 A6c
  simp only[Ae,Aa,h2,Ab]
theorem Bpv (t:B8) (a:A6) (h:t.2.1.length<=4294967296): ∃r,Acu t a=some r/\Aj2 t a=some r:=by
 obtain⟨cap,l,_⟩:=t
 obtain⟨p,q,_⟩:=a
 simp only at h
 obtain⟨o1,o2,h1,h2,hq⟩:=Xo (B1:=Aan) (B2:=Aaa)
  (fun i d1 d2=>d1=(l,(l.length:Int),(i:Int),p,q,())/\d2=((i:Int),cap,l,p,q,())) (fun o1 o2=>o1=o2) l.length
  (by
   rintro i d1 d2 hi ⟨rfl,rfl⟩
   have hx:=List.getElem?_eq_getElem hi
   unfold Aan Aaa
   simp (disch:=omega) only[Ad,Ae,Aa,Bw hi,Ay,Bc hx,Ab,w64]
   simp only[Awd]
   split
   .split
    .exact .inr ⟨_,_,rfl,rfl,rfl⟩
    .exact .inl ⟨_,_,rfl,rfl,rfl,rfl⟩
   .exact .inl ⟨_,_,rfl,rfl,rfl,rfl⟩)
  (by
   rintro d1 d2 ⟨rfl,rfl⟩
   unfold Aan Aaa
   simp only[Ad,Ae,Aa,B7,Aj]
   exact⟨_,_,rfl,rfl,rfl⟩)
  (d1:=(l,(l.length:Int),(0:Int),p,q,())) (d2:=((0:Int),cap,l,p,q,())) ⟨rfl,rfl⟩
 subst hq
 refine⟨(match o1 with| .inl a=>a.1| .inr _=>false,()),?_,?_⟩
 .unfold Acu A67
  simp only[Ae,Aa,h1,Ab,Az]
  cases o1<;>rfl
 .unfold Aj2 A6m
  simp only[Ae,Aa,h2,Ab,Az]
  cases o1<;>rfl
theorem Tv (b c:Bool):br b (some (c,())) (some (false,()))=some (b && c,()):=by cases b<;>rfl
theorem Bi8 (b c:Bool):br b (some (true,())) (some (c,()))=some (b || c,()):=by cases b<;>rfl
theorem Ahi (b c d:Bool):br b (some (c,())) (some (d,()))=some (bif b then c else d,()):=by cases b<;>rfl
def Ck (a:A6):Bool:=inR a.1 0 4294967295 && inR a.2.1 0 65535
theorem Ic (a:A6):Gi a=some (Ck a,()):=by
 unfold Gi At2 Ck
 simp only[Ad,Ae,Aa,Cf,Ab,Tv]
theorem Lz (a:A6):Gg a=some (Ck a,()):=by
 unfold Gg Asy Ck
 simp only[Ad,Ae,Aa,C4,Ab,Tv]
theorem Hp (a:YBs):Ds a=some ((a.1.length:Int)==12,()):=rfl
theorem Ac4 (a:YI):Qm a=some (a.1==0 || a.1==1,()):=by
 unfold Qm Aty
 simp only[Ad,Aa,Bi8]
theorem Ahx (n:Int):(n==0 || n==1)=inR n 0 1:=by
 apply Kn
 simp[inR]
 omega
def Ago (w:Cz) (n:Int):Bool:=
 match idx w.2.1 ((n%1024)/32)with
 |some e=>IntKind.i64.wrap ((BitVec.ofInt (IntKind.i64.bits) (Int.fdiv e.1 (2^(min ((n%32)).toNat IntKind.i64.bits))) &&& BitVec.ofInt (IntKind.i64.bits) (1:Int)).toNat:Nat)==1
 |none=>false
theorem A7x (w:Cz) (n:YI) (hl:w.2.1.length=32) (h0:0<=n.1):Aa6 w n=some (Ago w n.1,()):=by
 obtain⟨e,he,_⟩:=Xp (l:=w.2.1) (n:=(n.1%1024)/32) zq0 zq0
 unfold Aa6 At0 Ago
 simp only[Ag,Ae,Aa,he,Ab]
 rw[Ai h0,Ai zq0,Ai zq0]
 rfl
theorem Bd8 (w:Cz) (n:YI) (hl:w.2.1.length=32) (h0:0<=n.1):Ae1 w n=some (Ago w n.1,()):=by
 obtain⟨e,he,_⟩:=Xp (l:=w.2.1) (n:=(n.1%1024)/32) zq0 zq0
 unfold Ae1 Azc Ago
 simp only[Ag,Ae,Aa,he,Ab]
 rw[Ai h0,Ai zq0,Ai zq0,show(n.1%1024)%32=n.1%32 by omega]
 rfl
def Fy (l:List YI):Bool:=Dz (fun _ e=> !inR e.1 0 4294967295) l
theorem Awj (l:List YI) (n:Int) (hl:l.length<=4294967296):Tl (l,()) (n,())=some (Fy l && ((l.length:Int)==n),()):=by
 have h:=Fk (B:=Ov) l (fun i=>(l,n,l,(l.length:Int),(i:Int),())) (fun _ e=> !inR e.1 0 4294967295) (false,()) (l,n,())
  (fun i x hi hx=>by
   unfold Ov
   simp (disch:=omega) only[Ad,Ae,Aa,Bw hi,Ay,Bc hx,Ab,Cf,w64]
   rfl)
  (by unfold Ov;simp only[Ad,Ae,Aa,B7,Aj])
 unfold Tl Ai1
 simp only[Ae,Az,Aa]
 rw[show((0:Int))=((0:Nat):Int)from rfl,h]
 unfold Fy
 cases Dz (fun _ (e:YI)=> !inR e.1 0 4294967295) l<;>rfl
def Ahy (w:Cz):Bool:=Dz (fun i (_:Unit)=>Ago w (w.1+1+(i:Nat))) (List.replicate (1024-(w.1+1)).toNat ())
def Od (w:Cz):Bool:=inR w.1 (-1) 281474976710655 && (Fy w.2.1 && ((w.2.1.length:Int)==32) && (Ahy w && (w.1== -1 || Ago w w.1)))
theorem Bt {n lo hi:Int}:inR n lo hi=true↔lo<=n/\n<=hi:=by simp[inR]
theorem Bu0 (t:Int) (l:List YI) (hl:l.length=32) (h0: -1<=t) (h1:t<=281474976710655):Ax Rw (t+1,t,l,())=some (bif Ahy (t,l,())then .inr (t,l,())else .inl (false,())):=by
 have h:=Bbd (B:=Rw) (1024-(t+1)).toNat (fun i=>(t+1+(i:Nat),t,l,())) (fun i=>Ago (t,l,()) (t+1+(i:Nat))) (false,()) (t,l,())
  (fun i hi=>by
   unfold Rw
   simp (disch:=first|exact hl|(dsimp only;omega)|omega) only[Ad,Ae,Aa,A7x,Ab,w64]
   rw[Ai zq0]
   simp only[Ay]
   rw[show t+1+((i+1:Nat):Int)=t+1+(i:Int)+1 by omega])
  (by
   unfold Rw
   simp only[Ad,Aa]
   rw[Ce zq1])
 rw[show t+1=t+1+((0:Nat):Int) by simp,h]
 rfl
theorem Bpw (w:Cz) (hl:w.2.1.length<=4294967296):Al1 w=some (Od w,()):=by
 obtain⟨t,l,_⟩:=w
 simp only at hl
 unfold Al1 A0d Od
 simp (disch:=omega) only[Ad,Ae,Aa,Az,Cf,Ab,Awj]
 cases h1:inR t (-1) 281474976710655 with
 |false=>rfl
 |true=>
  cases h2:(Fy l && ((l.length:Int)==32))with
  |false=>rfl
  |true=>
   have h1:=Bt.1 h1
   have h3:l.length=32:=by simp at h2;omega
   simp only[Bool.not_true,Aj]
   rw[w64 zq0,Bu0 t l h3 zq0 zq0]
   cases h4:Ahy (t,l,())with
   |false=>rfl
   |true=>
    simp only[Ab,cond_true,A7y,Bool.true_and]
    by_cases h5:t= -1
    .subst h5;rfl
    .rw[A7x _ _ h3 zq2,Ab,Bi8]
theorem Bu1 (t:Int) (l:List YI) (hl:l.length=32) (h0: -1<=t) (h1:t<=281474976710655):Ax Jd (t+1,t,l,())=some (bif Ahy (t,l,())then .inr ()else .inl (false,())):=by
 have h:=Bbd (B:=Jd) (1024-(t+1)).toNat (fun i=>(t+1+(i:Nat),t,l,())) (fun i=>Ago (t,l,()) (t+1+(i:Nat))) (false,()) ()
  (fun i hi=>by
   unfold Jd
   simp (disch:=first|exact hl|(dsimp only;omega)|omega) only[Ad,Ae,Aa,Bd8,Ab,w64]
   rw[Ai zq0]
   simp only[Ay]
   rw[show t+1+((i+1:Nat):Int)=t+1+(i:Int)+1 by omega])
  (by
   unfold Jd
   simp only[Ad,Aa]
   rw[Ce zq1])
 rw[show t+1=t+1+((0:Nat):Int) by simp,h]
 rfl
theorem Br6 (t:Int) (l:List YI) (hl:l.length=32):Ax Nx (0,t,l,())=some (bif Fy l then .inr (t,l,())else .inl (false,())):=by
 have h:=Fk (B:=Nx) l (fun i=>((i:Int),t,l,())) (fun _ e=> !inR e.1 0 4294967295) (false,()) (t,l,())
  (fun i x hi hx=>by
   unfold Nx
   rw[hl]at hi
   simp (disch:=omega) only[Ad,Ae,Aa,Bc hx,Ab,C4,w64]
   rw[Ai zq0]
   rfl)
  (by unfold Nx;simp only[Ad,Ae,Aa,hl];rfl)
 rw[show((0:Int))=((0:Nat):Int)from rfl,h]
 rfl
theorem Bpx (w:Cz):Aly w=some (Od w,()):=by
 obtain⟨t,l,_⟩:=w
 unfold Aly Ala Od
 simp only[Ad,Ae,Aa,Az,C4,Ab]
 by_cases h3:l.length=32
 .rw[Ce (by simp[h3])]
  cases h1:inR t (-1) 281474976710655 with
  |false=>rfl
  |true=>
   have h1:=Bt.1 h1
   simp only[Bool.not_true,Aj]
   rw[Br6 t l h3]
   cases h2:Fy l with
   |false=>rfl
   |true=>
    simp only[Ab,cond_true,A7y,Bool.true_and,h3]
    rw[w64 zq0,Bu1 t l h3 zq0 zq0]
    by_cases h5:t= -1
    .subst h5
     rw[Ce zq3]
     cases Ahy (-1,l,())<;>rfl
    .rw[Dj zq1,Bd8 _ _ h3 zq2,Ab]
     have h6:(t== -1)=false:=by simpa using h5
     rw[h6]
     cases Ago (t,l,()) t<;>cases Ahy (t,l,())<;>rfl
 .rw[Dj (by simpa using (by omega: ¬((l.length:Int)=32)))]
  have:((l.length:Int)==32)=false:=by simpa using (by omega: ¬((l.length:Int)=32))
  rw[this]
  simp
def Hi (e:YEp):Bool:=inR e.1 0 4294967295 && (((e.2.1.length:Int)==32) && (inR e.2.2.1 0 281474976710656 && Od (e.2.2.2.1,e.2.2.2.2.1,())))
theorem Bbe (e:YEp) (h:e.2.2.2.2.1.length<=4294967296):Acs e=some (Hi e,()):=by
 unfold Acs A61 Hi
 simp (disch:=first|exact h) only[Ad,Ae,Aa,Cf,Ab,Tv,Bpw]
theorem Bla (e:YEp):Xg e=some (Hi e,()):=by
 unfold Xg A6e Hi
 simp only[Ad,Ae,Aa,C4,Ab,Tv,Bpx]
def ep0 (e:YEp):Bool:=(e.1==0) && (((e.2.1.length:Int)==0) && ((e.2.2.1==0) && ((e.2.2.2.1==0) && ((e.2.2.2.2.1.length:Int)==0))))
theorem Bgp (e:YEp):V7 e=some (ep0 e,()):=by
 unfold V7 Anb ep0
 simp only[Ad,Aa,Tv]
theorem Bgq (l:List YB):Cm l []=((l.length:Int)==0):=by
 apply Kn
 unfold Cm H8
 cases l<;>simp
 omega
theorem Bd9 (l:List YI):Aka (l,()) ([],())=some ((l.length:Int)==0,()):=by
 unfold Aka Ai0
 simp only[Ad,Ae,Aa,Az]
 cases l with
 |nil=>
  rw[Ce zq3]
  rw[Dk]
  rfl
 |cons x r=>
  rw[Dj zq1]
  simp;omega
theorem Bgr (e:YEp):Aa5 e ((0:Int),[],(0:Int),(0:Int),[],())=some (ep0 e,()):=by
 unfold Aa5 Atx ep0
 simp only[Ad,Ae,Aa,Ge,Bgq,Bd9,Ab,Tv]
def Bbf (c:Aq):Bool:=(c.1==0) && (((c.2.1.length:Int)==0) && (ep0 (c.2.2.1,c.2.2.2.1,c.2.2.2.2.1,c.2.2.2.2.2.1,c.2.2.2.2.2.2.1,()) && (ep0 (c.2.2.2.2.2.2.2.1,c.2.2.2.2.2.2.2.2.1,c.2.2.2.2.2.2.2.2.2.1,c.2.2.2.2.2.2.2.2.2.2.1,c.2.2.2.2.2.2.2.2.2.2.2.1,()) &&
 (!c.2.2.2.2.2.2.2.2.2.2.2.2.1 && ((c.2.2.2.2.2.2.2.2.2.2.2.2.2.1==0) && ((c.2.2.2.2.2.2.2.2.2.2.2.2.2.2.1.length:Int)==0))))))
theorem Blb (c:Aq):Acr c=some (Bbf c,()):=by
 unfold Acr Ach Bbf
 simp only[Ad,Ae,Aa,Bgr,Ab,Tv]
theorem Boz (c:Aq):Agg c=some (Bbf c,()):=by
 unfold Agg Afi Bbf
 simp only[Ad,Ae,Aa,Bgp,Ab,Tv]
abbrev Oc (c:Aq):YEp:=(c.2.2.1,c.2.2.2.1,c.2.2.2.2.1,c.2.2.2.2.2.1,c.2.2.2.2.2.2.1,())
abbrev Abn (c:Aq):YEp:=(c.2.2.2.2.2.2.2.1,c.2.2.2.2.2.2.2.2.1,c.2.2.2.2.2.2.2.2.2.1,c.2.2.2.2.2.2.2.2.2.2.1,c.2.2.2.2.2.2.2.2.2.2.2.1,())
abbrev Abp (c:Aq):Bool:=c.2.2.2.2.2.2.2.2.2.2.2.2.1
abbrev Ac5 (c:Aq):Int:=c.2.2.2.2.2.2.2.2.2.2.2.2.2.1
abbrev Nl (c:Aq):List YB:=c.2.2.2.2.2.2.2.2.2.2.2.2.2.2.1
def Qq (c:Aq):Bool:=bif !Abp c then ep0 (Abn c) && (Ac5 c==0)else
 !!Hi (Abn c) && (!((Abn c).1 != IntKind.i64.wrap ((Oc c).1-1)) && (inR (Ac5 c) 0 1000005 || ((Ac5 c== -1) && (c.1==1))))
def Co (c:Aq):Bool:= !!(c.1==0 || c.1==1) && (!!((c.2.1.length:Int)==12) && (!!Hi (Oc c) && (!!Qq c && (((Nl c).length:Int)==0 || ((c.1==0) && ((((Nl c).length:Int)==32) && decide ((Oc c).1<4294967295)))))))
theorem Bzo (c:Aq) (h:(Abn c).2.2.2.2.1.length<=4294967296):A1u c=some (Qq c,()):=by
 unfold A1u A0e Qq
 simp (disch:=first|exact h) only[Ad,Ae,Aa,Bgr,Ab,Bbe,Cf,Ahi,Bool.cond_false_right,Bool.cond_true_left,Bool.cond_false_left]
theorem Xq (c:Aq) (h1:(Oc c).2.2.2.2.1.length<=4294967296) (h2:(Abn c).2.2.2.2.1.length<=4294967296):Km c=some (Co c,()):=by
 unfold Km At1 Co
 simp (disch:=first|exact h1|exact h2) only[Ad,Ae,Aa,Ac4,Hp,Ab,Bbe,Bzo,Ahi,Bool.cond_false_right,Bool.cond_true_left,Bool.cond_false_left]
theorem Tw (c:Aq):Kl c=some (Co c,()):=by
 obtain⟨role,sn,n1,k1,q1,t1,b1,n2,k2,q2,t2,b2,has,til,next,_⟩:=c
 unfold Kl Asx Co Qq
 simp only[Ad,Ae,Aa,C4,Ab,Bla,Bgp,Ahi,Bool.cond_false_right,Bool.cond_true_left,Bool.cond_false_left,Ahx,Oc,Abn,Abp,Ac5,Nl]
 refine congrArg (fun b=>some (b,())) ?_
 cases h1:inR role 0 1 with
 |false=>rfl
 |true=>
  have h1:=Bt.1 h1
  cases has with
  |false=>simp[bne,Bool.and_assoc]
  |true=>
   rcases(show role=0\/role=1 by omega)with rfl|rfl
   .simp[bne,Bool.and_assoc]
   .have e2:inR til (-1) 1000005=(inR til 0 1000005 || til== -1):=by
     apply Kn;simp[inR];omega
    simp[bne,Bool.and_assoc,e2]
def eqA (a b c d:Int):Bool:=and (a==c) (and (b==d) true)
def Vf (at1 at2:Int) (l:List Av) (i:Nat) (x:Av):Bool:=
 !(Ck (x.1,x.2.1,()) && (!eqA x.1 x.2.1 at1 at2 && (((x.2.2.1.length:Int)==12) && (inR x.2.2.2.1 0 1000006 && Dz (fun _ y=>eqA y.1 y.2.1 x.1 x.2.1) (l.take i)))))
def Ei (p:Bd):Bool:=Ck (p.1,p.2.1,()) && (!decide ((p.2.2.1.length:Int)>3) && Dz (Vf p.1 p.2.1 p.2.2.1) p.2.2.1)
theorem Bu2 (l0:List Av) (n:Int) (i:Nat) (m:List Av) (hm:m.length<=4294967296) (a b:Int) (l:List Av) (x:Av):
  Ax J5 (l0,n,(i:Int),m,(m.length:Int),(0:Int),a,b,l,x.1,x.2.1,x.2.2.1,x.2.2.2.1,())=some (bif Dz (fun _ y=>eqA y.1 y.2.1 x.1 x.2.1) m then .inr (l0,n,(i:Int),a,b,l,())else .inl (false,())):=by
 have h:=Fk (B:=J5) m (fun j=>(l0,n,(i:Int),m,(m.length:Int),(j:Int),a,b,l,x.1,x.2.1,x.2.2.1,x.2.2.2.1,())) (fun _ y=>eqA y.1 y.2.1 x.1 x.2.1) (false,()) (l0,n,(i:Int),a,b,l,())
  (fun j y hj hy=>by
   unfold J5
   simp (disch:=omega) only[Ad,Ae,Aa,Bw hj,Ay,Bc hy,Ab,w64]
   rfl)
  (by unfold J5;simp only[Ad,Aa,B7,Aj])
 rw[show((0:Int))=((0:Nat):Int)from rfl,h]
theorem Bu3 (i:Nat) (a b:Int) (l:List Av) (hi:i<=l.length) (hl:l.length<=4294967296) (x:Av):
  Ax Iu ((i:Int),(0:Int),a,b,l,x.1,x.2.1,x.2.2.1,x.2.2.2.1,())=some (bif Dz (fun _ y=>eqA y.1 y.2.1 x.1 x.2.1) (l.take i)then .inr ((i:Int),a,b,l,())else .inl (false,())):=by
 have hlen:(l.take i).length=i:=by simp;omega
 have h:=Fk (B:=Iu) (l.take i) (fun j=>((i:Int),(j:Int),a,b,l,x.1,x.2.1,x.2.2.1,x.2.2.2.1,())) (fun _ y=>eqA y.1 y.2.1 x.1 x.2.1) (false,()) ((i:Int),a,b,l,())
  (fun j y hj hy=>by
   have hy2:l[j]? =some y:=by rw[List.getElem?_take]at hy;split at hy;exact hy;cases hy
   unfold Iu
   simp (disch:=omega) only[Ad,Ae,Aa,Bw (show j<i by omega),Ay,Bc hy2,Ab,w64]
   rfl)
  (by unfold Iu;rw[hlen];simp only[Ad,Aa,B7,Aj])
 rw[show((0:Int))=((0:Nat):Int)from rfl,h]
theorem Zm (p:Bd) (hl:p.2.2.1.length<=4294967296):Wa p=some (Ei p,()):=by
 obtain⟨a,b,l,_⟩:=p
 simp only at hl
 have h:=Fk (B:=Mh) l (fun i=>(l,(l.length:Int),(i:Int),a,b,l,())) (Vf a b l) (false,()) ()
  (fun i x hi hx=>by
   have hlen:(l.take i).length<=4294967296:=by simp;omega
   unfold Mh
   simp only[Ad,Ae,Aa,Ag,Az,Bw hi,Ay,Bc hx,Ab,Ic,Hp,Cf,Int.toNat_natCast,Int.toNat_zero,List.drop_zero]
   rw[Bu2 l _ i _ hlen]
   unfold Vf
   rw[Ai zq0,Ai zq0]
   simp only[Ar,eqA,Ab]
   cases Ck (x.1,x.2.1,())<;>cases (and (x.1==a) (and (x.2.1==b) true))<;>cases ((x.2.2.1.length:Int)==12)<;>cases inR x.2.2.2.1 0 1000006<;>cases Dz (fun _ (y:Av)=>and (y.1==x.1) (and (y.2.1==x.2.1) true)) (l.take i)<;>first|rfl|(simp only[cond_true,A7y,br,Bool.not_true];rw[w64 zq0];rfl))
  (by unfold Mh;simp only[Ad,Aa,B7,Aj])
 unfold Wa Ad0 Ei
 simp only[Ad,Ae,Aa,Az,Ic,Ab]
 rw[show((0:Int))=((0:Nat):Int)from rfl,h]
 cases Ck (a,b,())<;>cases decide ((l.length:Int)>3)<;>cases Dz (Vf a b l) l<;>rfl
theorem Ama (p:Bd) (hl:p.2.2.1.length<=4294967296):R7 p=some (Ei p,()):=by
 obtain⟨a,b,l,_⟩:=p
 simp only at hl
 have h:=Fk (B:=Me) l (fun i=>((i:Int),a,b,l,())) (Vf a b l) (false,()) ()
  (fun i x hi hx=>by
   unfold Me
   simp only[Ad,Ae,Aa,Ag,Az,Bw hi,Ay,Bc hx,Ab,Lz,C4]
   rw[Bu3 i a b l zq0 hl]
   unfold Vf
   simp only[Ab,eqA,bne]
   cases Ck (x.1,x.2.1,())<;>cases (and (x.1==a) (and (x.2.1==b) true))<;>cases ((x.2.2.1.length:Int)==12)<;>cases inR x.2.2.2.1 0 1000006<;>cases Dz (fun _ (y:Av)=>and (y.1==x.1) (and (y.2.1==x.2.1) true)) (l.take i)<;>first|rfl|(simp only[cond_true,A7y,br,Bool.not_true];rw[w64 zq0];rfl))
  (by unfold Me;simp only[Ad,Aa,B7,Aj])
 unfold R7 Adp Ei
 simp only[Ad,Ae,Aa,Az,Lz,Ab]
 rw[show((0:Int))=((0:Nat):Int)from rfl,h]
 cases Ck (a,b,())<;>cases decide ((l.length:Int)>3)<;>cases Dz (Vf a b l) l<;>rfl
abbrev Cq (s:Al):Aq:=(s.2.2.2.1,s.2.2.2.2.1,s.2.2.2.2.2.1,s.2.2.2.2.2.2.1,s.2.2.2.2.2.2.2.1,s.2.2.2.2.2.2.2.2.1,s.2.2.2.2.2.2.2.2.2.1,s.2.2.2.2.2.2.2.2.2.2.1,s.2.2.2.2.2.2.2.2.2.2.2.1,s.2.2.2.2.2.2.2.2.2.2.2.2.1,s.2.2.2.2.2.2.2.2.2.2.2.2.2.1,s.2.2.2.2.2.2.2.2.2.2.2.2.2.2.1,s.2.2.2.2.2.2.2.2.2.2.2.2.2.2.2.1,s.2.2.2.2.2.2.2.2.2.2.2.2.2.2.2.2.1,s.2.2.2.2.2.2.2.2.2.2.2.2.2.2.2.2.2.1,())
abbrev Bp (s:Al):Bd:=(s.2.2.2.2.2.2.2.2.2.2.2.2.2.2.2.2.2.2.1,s.2.2.2.2.2.2.2.2.2.2.2.2.2.2.2.2.2.2.2.1,s.2.2.2.2.2.2.2.2.2.2.2.2.2.2.2.2.2.2.2.2.1,())
abbrev A18 (s:Al):Int:=s.2.2.2.2.2.2.2.2.2.2.2.2.2.2.2.2.2.2.2.2.2.1
abbrev Abq (s:Al):Int:=s.2.2.2.2.2.2.2.2.2.2.2.2.2.2.2.2.2.2.2.2.2.2.1
abbrev Cw (s:Al):Bool:=s.2.2.2.2.2.2.2.2.2.2.2.2.2.2.2.2.2.2.2.2.2.2.2.1
def C8 (s:Al):Bool:=
 inR s.1 1 9 && (((s.2.1.length:Int)==12) && (((s.2.2.1.length:Int)==12) && (inR (A18 s) 0 1000000 &&
  (bif Cw s then Bbf (Cq s) && (eqA (Bp s).1 (Bp s).2.1 0 0 && ((((Bp s).2.2.1.length:Int)==0) && (Abq s==0)))
  else Co (Cq s) && ((s.2.2.2.1==1) && (Cm s.2.2.2.2.1 s.2.2.1 && (Ei (Bp s) && inR (Abq s) 0 1000000)))))))
theorem Xr (s:Al) (h:Ap s<=4294967296):U3 s=some (C8 s,()):=by
 have hn:Ap s=_:=rfl
 unfold U3 At3 C8
 simp only[Ap]at h
 rw[Xq _ zq2 zq2,Zm _ zq2]
 simp only[Ad,Ae,Aa,Cf,Hp,Blb,Ge,Ab,Ahi,Bool.cond_false_right,Bool.cond_true_left,Bool.cond_false_left,eqA,Bool.not_not]
theorem Bzp:A7p ((-1:Int),())=some ((0:Int),(0:Int),()):=by
 unfold A7p A6d
 simp only[Ad,Ae,Aa,C4,Ab]
 rfl
theorem Awk (s:Al) (h:Ap s<=4294967296):Ux s=some (C8 s,()):=by
 unfold Ux Asz C8
 simp only[Ap]at h
 rw[Ama _ zq2]
 simp only[Ad,Ae,Aa,C4,Boz,Tu,Tw,Bzp,Ab,Ahi,Bool.cond_false_right,Bool.cond_true_left,Bool.cond_false_left,eqA,Bool.not_not]
 refine congrArg (fun b=>some (b,())) ?_
 cases hd:Cw s with
 |true=>
  cases hl:Abq s==0 with
  |false=>simp[hd,hl,bne]
  |true=>
   have e:inR (Abq s) 0 1000000=true:=by simp at hl;simp[inR,hl]
   simp[hd,hl,bne,e]
 |false=>
  cases hl:inR (Abq s) 0 1000000 with
  |false=>simp[hd,hl,bne]
  |true=>simp[hd,hl,bne]
def L9 {E:Type} (q:E->Bool) (l:List E):Int:=(Id (fun _ x=>q x) l 0).elim (-1) fun i=>(i:Int)
theorem Ahz {E:Type} {q:E->Bool} {l:List E} {i:Nat} {x:E} (hx:l[i]? =some x) (hq:q x=true):0<=L9 q l/\L9 q l<=i:=by
 unfold L9
 cases h:Id (fun _ x=>q x) l 0 with
 |none=>
  have:=Ae6.1 h i x hx
  rw[hq]at this;cases this
 |some k=>
  obtain⟨j,y,rfl,h2,h3,h4⟩:=Tx h
  simp only[Option.elim,Nat.zero_add]
  rcases Nat.lt_or_ge i j with hh|hh
  .have:=h4 i x hh hx
   try simp only at this
   rw[hq]at this;cases this
  .omega
theorem A3m {E:Type} {q:E->Bool} {l:List E} {i:Nat} {x:E} (hx:l[i]? =some x) (hq:q x=true):decide (L9 q l<i)= !Dz (fun _ y=>q y) (l.take i):=by
 apply Kn
 have hb:=Ahz hx hq
 rw[Bool.not_eq_true',decide_eq_true_iff]
 constructor
 .intro hlt
  cases hn:Dz (fun _ y=>q y) (l.take i)with
  |false=>rfl
  |true=>
   rw[Hq]at hn
   unfold L9 at hlt hb
   cases h:Id (fun _ x=>q x) l 0 with
   |none=>rw[h]at hb;simp at hb
   |some k=>
    rw[h]at hlt
    simp only[Option.elim]at hlt
    obtain⟨j,y,rfl,h2,h3,h4⟩:=Tx h
    have:=hn j y (by rw[List.getElem?_take,if_pos zq0];exact h2)
    try simp only at h3
    rw[this]at h3;cases h3
 .intro hn
  rcases Int.lt_or_le (L9 q l) i with h|h
  .exact h
  .exfalso
   have hall:Dz (fun _ y=>q y) (l.take i)=true:=by
    rw[Hq]
    intro j y hj
    rw[List.getElem?_take]at hj
    split at hj
    .rename_i hlt
     cases hq2:q y with
     |false=>rfl
     |true=>have:=Ahz hj hq2;omega
    .cases hj
   rw[hall]at hn;cases hn
theorem Bzq {E:Type} {q:E->Bool} {l:List E}: -1<=L9 q l/\L9 q l<l.length:=by
 unfold L9
 cases h:Id (fun _ x=>q x) l 0 with
 |none=>simp[Option.elim];omega
 |some k=>
  obtain⟨j,y,rfl,h2,_⟩:=Tx h
  have:=(List.getElem?_eq_some_iff.1 h2).1
  simp[Option.elim];omega
theorem A19 {E:Type} (q:E->Bool) (l:List E):(sm ((Id (fun _ x=>q x) l 0).elim (Sum.inr ()) fun i=>Sum.inl ((i:Int),())) (fun c:Int×Unit=>some (c.1,())) fun _:Unit=>some ((-1:Int),()))=some (L9 q l,()):=by
 unfold L9
 cases Id (fun _ x=>q x) l 0<;>rfl
def Ed (l:List Al) (s:List YB):Int:=L9 (fun x=>Cm x.2.2.1 s) l
theorem Qr (t:B8) (a:YBs) (h:t.2.1.length<=4294967296):Nf t a=some (Ed t.2.1 a.1,()):=by
 obtain⟨cap,l,_⟩:=t
 obtain⟨s,_⟩:=a
 simp only at h
 have hl:=Pz (B:=S6) l (fun i=>(s,l,(l.length:Int),(i:Int),())) (fun _ x=>Cm x.2.2.1 s) (fun i=>((i:Int),())) ()
  (fun i x hi hx=>by
   unfold S6
   simp (disch:=omega) only[Ad,Ae,Aa,Bw hi,Ay,Bc hx,Ab,w64,Ge]
   rfl)
  (by unfold S6;simp only[Ad,Aa,B7,Aj])
 unfold Nf At4
 simp only[Ae,Aa,Az]
 rw[show((0:Int))=((0:Nat):Int)from rfl,hl]
 exact A19 _ _
theorem Awl (t:B8) (a:YBs) (h:t.2.1.length<=4294967296):Uy t a=some (Ed t.2.1 a.1,()):=by
 obtain⟨cap,l,_⟩:=t
 obtain⟨s,_⟩:=a
 simp only at h
 have hl:=Pz (B:=Sy) l (fun i=>(s,(i:Int),cap,l,())) (fun _ x=>Cm x.2.2.1 s) (fun i=>((i:Int),())) ()
  (fun i x hi hx=>by
   unfold Sy
   simp (disch:=omega) only[Ad,Ae,Aa,Bw hi,Ay,Bc hx,Ab,w64,Tu]
   rfl)
  (by unfold Sy;simp only[Ad,Aa,B7,Aj])
 unfold Uy As0
 simp only[Ae,Aa,Az]
 rw[show((0:Int))=((0:Nat):Int)from rfl,hl]
 exact A19 _ _
theorem Qs (a:List YB):Cm a a=true:=by simp[Cm]
def Eh (t:B8):Int:=match Xj t with|some r=>r.1|none=>0
theorem Blc (t:B8) (h:t.2.1.length<=4294967296):Xj t=some (Eh t,()):=by
 obtain⟨r,h1,h2⟩:=Bpu t h
 unfold Eh;rw[h1]
theorem Bu4 (t:B8) (h:t.2.1.length<=4294967296):Aj0 t=some (Eh t,()):=by
 obtain⟨r,h1,h2⟩:=Bpu t h
 unfold Eh;rw[h1,h2]
def Ape (t:B8) (a:A6):Bool:=match Acu t a with|some r=>r.1|none=>false
theorem Bu5 (t:B8) (a:A6) (h:t.2.1.length<=4294967296):Acu t a=some (Ape t a,()):=by
 obtain⟨r,h1,h2⟩:=Bpv t a h
 unfold Ape;rw[h1]
theorem Bu6 (t:B8) (a:A6) (h:t.2.1.length<=4294967296):Aj2 t a=some (Ape t a,()):=by
 obtain⟨r,h1,h2⟩:=Bpv t a h
 unfold Ape;rw[h1,h2]
def Lg (l:List Al) (i:Nat) (x:Al):Bool:= !(C8 x && !decide (Ed l x.2.2.1<i))
def I8 (t:B8):Bool:=inR t.1 1 6 && (!decide ((t.2.1.length:Int)>12) && (!decide (Eh t>t.1) && Dz (Lg t.2.1) t.2.1))
theorem Arg (t:B8) (h:Bj t<=4294967296):Zd t=some (I8 t,()):=by
 obtain⟨cap,l,_⟩:=t
 simp only[Bj]at h
 have hl:=Fk (B:=V4) l (fun i=>(l,(l.length:Int),(i:Int),cap,l,())) (Lg l) (false,()) ()
  (fun i x hi hx=>by
   have h2:=Gj (f:=Ap) hx
   unfold V4
   simp only[Ad,Ae,Aa,Bw hi,Ay,Bc hx,Ab]
   rw[Xr x zq0,Qr _ _ zq2,w64 zq0]
   simp only[Ab,Lg]
   cases C8 x<;>cases decide (Ed l x.2.2.1<(i:Int))<;>rfl)
  (by unfold V4;simp only[Ad,Aa,B7,Aj])
 unfold Zd A0f I8
 simp only[Ad,Ae,Aa,Az,Cf,Ab]
 rw[Blc _ zq2,show((0:Int))=((0:Nat):Int)from rfl,hl]
 simp only[Ab]
 cases inR cap 1 6<;>cases decide ((l.length:Int)>12)<;>cases decide (Eh (cap,l,())>cap)<;>cases Dz (Lg l) l<;>rfl
theorem Bpy (t:B8) (h:Bj t<=4294967296):Alz t=some (I8 t,()):=by
 obtain⟨cap,l,_⟩:=t
 simp only[Bj]at h
 have hl:=Fk (B:=Vy) l (fun i=>((i:Int),cap,l,())) (Lg l) (false,()) ()
  (fun i x hi hx=>by
   have h2:=Gj (f:=Ap) hx
   have h3:=Ahz (q:=fun y=>Cm y.2.2.1 x.2.2.1) hx (Qs _)
   have h4:(Ed l x.2.2.1 != (i:Int))=decide (Ed l x.2.2.1<(i:Int)):=by
    apply Kn;unfold Ed;simp;omega
   unfold Vy
   simp only[Ad,Ae,Aa,Bw hi,Ay,Bc hx,Ab]
   rw[Awk x zq0,Awl _ _ zq2,w64 zq0]
   simp only[Ab,Lg,h4]
   cases C8 x<;>cases decide (Ed l x.2.2.1<(i:Int))<;>rfl)
  (by unfold Vy;simp only[Ad,Aa,B7,Aj])
 unfold Alz Azj I8
 simp only[Ad,Ae,Aa,Az,C4,Ab]
 rw[Bu4 _ zq2,show((0:Int))=((0:Nat):Int)from rfl,hl]
 simp only[Ab]
 cases inR cap 1 6<;>cases decide ((l.length:Int)>12)<;>cases decide (Eh (cap,l,())>cap)<;>cases Dz (Lg l) l<;>rfl
def C0 (l:List Ak) (a:A6):Int:=L9 (fun x=>eqA x.1 x.2.1 a.1 a.2.1) l
theorem Abr (l:List Ak) (a:A6) (h:l.length<=4294967296):Pd (l,()) a=some (C0 l a,()):=by
 obtain⟨p,q,_⟩:=a
 have hl:=Pz (B:=Ow) l (fun i=>(l,(l.length:Int),(i:Int),p,q,())) (fun _ x=>eqA x.1 x.2.1 p q) (fun i=>((i:Int),())) ()
  (fun i x hi hx=>by
   unfold Ow
   simp (disch:=omega) only[Ad,Ae,Aa,Bw hi,Ay,Bc hx,Ab,w64]
   rfl)
  (by unfold Ow;simp only[Ad,Aa,B7,Aj])
 unfold Pd Ai4
 simp only[Ae,Aa,Az]
 rw[show((0:Int))=((0:Nat):Int)from rfl,hl]
 exact A19 _ _
theorem A3n (l:List Ak) (a:A6) (h:l.length<=4294967296):Ae2 (l,()) a=some (C0 l a,()):=by
 obtain⟨p,q,_⟩:=a
 have hl:=Pz (B:=Vz) l (fun i=>(l,(i:Int),p,q,())) (fun _ x=>eqA x.1 x.2.1 p q) (fun i=>((i:Int),())) ()
  (fun i x hi hx=>by
   unfold Vz
   simp (disch:=omega) only[Ad,Ae,Aa,Bw hi,Ay,Bc hx,Ab,w64]
   rfl)
  (by unfold Vz;simp only[Ad,Aa,B7,Aj])
 unfold Ae2 Azm
 simp only[Ae,Aa,Az]
 rw[show((0:Int))=((0:Nat):Int)from rfl,hl]
 exact A19 _ _
theorem Bld (a b:Int):eqA a b a b=true:=by simp[eqA]
def Vg (l:List Ak) (i:Nat) (x:Ak):Bool:=
 !(Ck (x.1,x.2.1,()) && (inR x.2.2.1 0 1000000 && (inR x.2.2.2.1 0 (IntKind.i64.wrap (3*x.2.2.1)) && !decide (C0 l (x.1,x.2.1,())<i))))
def Ch (l:List Ak):Bool:= !decide ((l.length:Int)>8) && Dz (Vg l) l
theorem Wk (l:List Ak) (h:l.length<=4294967296):Mk (l,())=some (Ch l,()):=by
 have hl:=Fk (B:=Ms) l (fun i=>(l,l,(l.length:Int),(i:Int),())) (Vg l) (false,()) ()
  (fun i x hi hx=>by
   unfold Ms
   simp only[Ad,Ae,Aa,Bw hi,Ay,Bc hx,Ab,Ic,Cf]
   rw[Abr _ _ h,w64 (n:=(i:Int)+1) zq0]
   simp only[Ab,Vg]
   cases Ck (x.1,x.2.1,())<;>cases inR x.2.2.1 0 1000000<;>cases inR x.2.2.2.1 0 (IntKind.i64.wrap (3*x.2.2.1))<;>cases decide (C0 l (x.1,x.2.1,())<(i:Int))<;>rfl)
  (by unfold Ms;simp only[Ad,Aa,B7,Aj])
 unfold Mk Afu Ch
 simp only[Ad,Ae,Aa,Az]
 rw[show((0:Int))=((0:Nat):Int)from rfl,hl]
 simp only[Ab]
 cases decide ((l.length:Int)>8)<;>cases Dz (Vg l) l<;>rfl
theorem Bxk (l:List Ak) (h:l.length<=4294967296) (i:Nat) (x:Ak) (hx:l[i]? =some x):
  Ax H4 (l,(i:Int),(0:Int),())=some (bif Dz (fun _ y=>eqA y.1 y.2.1 x.1 x.2.1) (l.take i)then .inr (l,(i:Int),())else .inl (false,())):=by
 have hi:=(List.getElem?_eq_some_iff.1 hx).1
 have hlen:(l.take i).length=i:=by simp;omega
 have hl:=Fk (B:=H4) (l.take i) (fun j=>(l,(i:Int),(j:Int),())) (fun _ y=>eqA y.1 y.2.1 x.1 x.2.1) (false,()) (l,(i:Int),())
  (fun j y hj hy=>by
   have hy2:l[j]? =some y:=by rw[List.getElem?_take]at hy;split at hy;exact hy;cases hy
   unfold H4
   simp (disch:=omega) only[Ad,Ae,Aa,Bw (show j<i by omega),Ay,Bc hy2,Bc hx,Ab,w64]
   rfl)
  (by unfold H4;rw[hlen];simp only[Ad,Aa,B7,Aj])
 rw[show((0:Int))=((0:Nat):Int)from rfl,hl]
theorem Wl (l:List Ak) (h:l.length<=4294967296):Mi (l,())=some (Ch l,()):=by
 have hl:=Fk (B:=Ju) l (fun i=>(l,(i:Int),())) (Vg l) (false,()) ()
  (fun i x hi hx=>by
   have h3:=A3m (q:=fun y:Ak=>eqA y.1 y.2.1 x.1 x.2.1) hx (Bld _ _)
   unfold Ju
   simp only[Ad,Ae,Aa,Az,Bw hi,Ay,Bc hx,Ab,Lz,C4]
   rw[Bxk l h i x hx]
   unfold Vg C0
   simp only[Ab]
   rw[h3]
   cases Ck (x.1,x.2.1,())<;>cases inR x.2.2.1 0 1000000<;>cases inR x.2.2.2.1 0 (IntKind.i64.wrap (3*x.2.2.1))<;>cases Dz (fun _ (y:Ak)=>eqA y.1 y.2.1 x.1 x.2.1) (l.take i)<;>first|rfl|(simp only[cond_true,A7y,br,Bool.not_true];rw[w64 zq0];rfl))
  (by unfold Ju;simp only[Ad,Aa,B7,Aj])
 unfold Mi Wx Ch
 simp only[Ad,Ae,Aa,Az]
 rw[show((0:Int))=((0:Nat):Int)from rfl,hl]
 simp only[Ab]
 cases decide ((l.length:Int)>8)<;>cases Dz (Vg l) l<;>rfl
theorem Bbg (l:List Ak) (a:A6) (h:l.length<=4294967296): ∃r,Kx (l,()) a=some r/\N3 (l,()) a=some r:=by
 unfold Kx Ad3 N3 Adr
 simp only[Ad,Ae,Aa]
 rw[Abr _ _ h,A3n _ _ h,Wk _ h,Wl _ h]
 simp only[Ab]
 have hb:=Bzq (q:=fun x:Ak=>eqA x.1 x.2.1 a.1 a.2.1) (l:=l)
 cases Ch l with
 |false=>exact⟨_,rfl,rfl⟩
 |true=>
  by_cases hn:C0 l a<0
  .rw[Ai hn];exact⟨_,rfl,rfl⟩
  .rw[Bk hn]
   obtain⟨e,he,_⟩:=Xp (l:=l) (n:=C0 l a) zq0 (by unfold C0;omega)
   rw[he]
   exact⟨_,rfl,rfl⟩
def Arh (l:List Ak) (a:A6):Int:=match Kx (l,()) a with|some r=>r.1|none=>0
theorem Bu7 (l:List Ak) (a:A6) (h:l.length<=4294967296):Kx (l,()) a=some (Arh l a,()):=by
 obtain⟨r,h1,h2⟩:=Bbg l a h
 unfold Arh;rw[h1]
theorem Bu8 (l:List Ak) (a:A6) (h:l.length<=4294967296):N3 (l,()) a=some (Arh l a,()):=by
 obtain⟨r,h1,h2⟩:=Bbg l a h
 unfold Arh;rw[h1,h2]
def Ari (s:A0) (a:A6) (n:Int):Bool:=Ape (s.2.2.2.2.1,s.2.2.2.2.2.1,()) a || decide (Arh s.2.2.2.2.2.2.1 a≥n)
theorem Akq (s:A0) (a:A6) (n:YI) (h:A7 s<=4294967296):Aha s a n=some (Ari s a n.1,()):=by
 simp only[A7]at h
 unfold Aha Aub Ari
 simp only[Ad,Ae,Aa]
 rw[Bu5 _ _ zq2,Bu7 _ _ zq0]
 simp only[Ab,Bi8]
theorem Ble (s:A0) (a:A6) (n:YI) (h:A7 s<=4294967296):Uz s a n=some (Ari s a n.1,()):=by
 simp only[A7]at h
 unfold Uz As4 Ari
 simp only[Ad,Ae,Aa]
 rw[Bu6 _ _ zq2,Bu8 _ _ zq0]
 simp only[Ab,Bi8]
theorem E9 {E:Type} {l:List E} {i:Nat} {x:E} (h:l[i]? =some x):l.take i++[x]=l.take (i+1):=by
 rw[List.take_add_one,h];rfl
theorem B0 (b:YBs) (h:b.1.length<=4294967296):Bg b=some b:=by
 unfold Bg Az8
 simp only[Ag,Aa,List.length_nil,Nat.zero_add,List.nil_append]
 rw[Ai h];rfl
def byt (n:Int) (j:Nat):YB:=(IntKind.u8.wrap (IntKind.i64.wrap ((BitVec.ofInt (IntKind.i64.bits) (Int.fdiv n (2^(min (8*j) IntKind.i64.bits))) &&& BitVec.ofInt (IntKind.i64.bits) (255:Int)).toNat:Nat)),())
def Fj (n:Int) (k i:Nat):List YB:=(List.range i).map fun j=>byt n (k-1-j)
theorem Fe (n:Int) (k i:Nat):(Fj n k i).length=i:=by simp[Fj]
theorem Bzr:Fd=El:=rfl
theorem Bbh (b:List YB) (n:Int) (k:Nat) (h1:1<=k) (h6:k<=6) (hl:b.length<=1073741824):El (b,()) (n,()) ((k:Int),())=some (b++Fj n k k,()):=by
 have hr:=C6 (B:=Z9) k (fun i=>(n,b++Fj n k i,(k:Int)-1-(i:Int),())) (b++Fj n k k,())
  (fun i hi=>by
   unfold Z9
   simp only[Ad,Ag,Aa]
   have e:(8:Int)*((k:Int)-1-(i:Int))=((8*(k-1-i):Nat):Int):=by omega
   rw[Ai zq0,Ay,w64 (n:=8*((k:Int)-1-(i:Int))) zq0,Ai zq0,Ar,Ai zq4,Ar,w64 (n:=(k:Int)-1-(i:Int)-1) zq0,e,Int.toNat_natCast]
   have e2:(b++Fj n k i)++[byt n (k-1-i)]=b++Fj n k (i+1):=by
    unfold Fj;rw[List.range_succ,List.map_append,List.append_assoc];rfl
   rw[<-e2,show(k:Int)-1-((i+1:Nat):Int)=(k:Int)-1-(i:Int)-1 by omega]
   rfl)
  (by unfold Z9;simp only[Ad,Aa,Ag];rw[Bk zq0,Aj])
 unfold El A6k
 simp only[Ad,Ag,Ae,Aa,List.nil_append,List.length_nil,Nat.zero_add]
 rw[Ai zq0,Ar,Bk zq0,Aj,Bk zq0,Aj,w64 zq0]
 have e0:(n,b,(k:Int)-1,())=(n,b++Fj n k 0,(k:Int)-1-((0:Nat):Int),()):=by simp[Fj]
 rw[e0,hr]
 rfl
theorem Blf (b:List YB) (n:Int) (k:Nat) (h1:1<=k) (h6:k<=6) (hl:b.length<=1073741824):Fd (b,()) (n,()) ((k:Int),())=some (b++Fj n k k,()):=by
 rw[Bzr];exact Bbh b n k h1 h6 hl
theorem Lh (b:List YB) (n:Int) (hl:b.length<=1073741824):El (b,()) (n,()) ((4:Int),())=some (b++Fj n 4 4,()):=Bbh b n 4 zq0 zq0 hl
theorem Bpz (b:List YB) (n:Int) (hl:b.length<=1073741824):El (b,()) (n,()) ((6:Int),())=some (b++Fj n 6 6,()):=Bbh b n 6 zq0 zq0 hl
theorem Pm (b:List YB) (n:Int) (hl:b.length<=1073741824):Fd (b,()) (n,()) ((4:Int),())=some (b++Fj n 4 4,()):=Blf b n 4 zq0 zq0 hl
theorem Bea (b:List YB) (n:Int) (hl:b.length<=1073741824):Fd (b,()) (n,()) ((6:Int),())=some (b++Fj n 6 6,()):=Blf b n 6 zq0 zq0 hl
def cat:List YBs->List YB
 |[]=>[]
 |x::r=>x.1++cat r
theorem Blg (l:List YBs) (x:YBs):cat (l++[x])=cat l++x.1:=by
 induction l with
 |nil=>simp[cat]
 |cons y r ih=>simp[cat,ih]
theorem Bo0 (l:List YBs) (i:Nat):(cat (l.take i)).length<=(cat l).length:=by
 induction l generalizing i with
 |nil=>simp
 |cons y r ih=>cases i with
  |zero=>simp[cat]
  |succ i=>simp[cat];exact ih i
theorem Hj (l:List YBs) (h:(cat l).length<=4294967296) (h2:l.length<=4294967296):Er (l,())=some (cat l,()):=by
 have hr:=C6 (B:=Ox) l.length (fun i=>(cat (l.take i),l,(l.length:Int),(i:Int),())) (cat l,())
  (fun i hi=>by
   have hx:=List.getElem?_eq_getElem hi
   have h3:=Bo0 l (i+1)
   rw[<-E9 hx,Blg]at h3
   simp only[List.length_append]at h3
   unfold Ox
   simp only[Ad,Ae,Aa,Ag,Bw hi,Ay,Bc hx,Ab]
   rw[Ai zq0,Ar,w64 zq0,<-Blg,E9 hx]
   rfl)
  (by unfold Ox;simp only[Ad,Aa,B7,Aj,List.take_length])
 unfold Er At9
 simp only[Ae,Aa]
 rw[show Ax Ox ([],l,(l.length:Int),(0:Int),())=some (cat l,())from hr]
 rfl
theorem Xs (n:YI):Ng n=some (inR n.1 4 8,()):=by
 unfold Ng At7
 simp only[Ae,Aa,Cf,Ab]
theorem Xt (n:YI):M9 n=some (inR n.1 4 8,()):=by
 unfold M9 As2
 simp only[Ae,Aa,C4,Ab]
def Ji (k n:Int):Bool:=bif k==4 then decide (n<=40)else bif k==5 then n==12 else bif k==6 then n==12 else n==4
theorem Bxl (k n:YI):Avv k n=some (Ji k.1 n.1,()):=by
 unfold Avv At8 Ji
 simp only[Ad,Aa,Ahi]
theorem A7z (k n:YI):Aa1 k n=some (Ji k.1 n.1,()):=by
 unfold Aa1 As3 Ji
 simp only[Ad,Aa,Ahi]
theorem Bo1 (f g:As):Ml f g=some ((f.1==g.1) && ((f.2.1==g.2.1) && ((f.2.2.2.2.1==g.2.2.2.2.1) && ((f.2.2.2.2.2.2.2.1==g.2.2.2.2.2.2.2.1) && ((f.2.2.2.2.2.2.2.2.1==g.2.2.2.2.2.2.2.2.1) && (Cm f.2.2.1 g.2.2.1 && (Cm f.2.2.2.1 g.2.2.2.1 &&
  (Cm f.2.2.2.2.2.1 g.2.2.2.2.2.1 && (Cm f.2.2.2.2.2.2.1 g.2.2.2.2.2.2.1 && (Cm f.2.2.2.2.2.2.2.2.2.1 g.2.2.2.2.2.2.2.2.2.1 && Cm f.2.2.2.2.2.2.2.2.2.2.1 g.2.2.2.2.2.2.2.2.2.2.1))))))))),()):=by
 unfold Ml Afv
 simp only[Ad,Ae,Aa,Ge,Ab,Tv]
def Bm (f:As):Bool:=
 bif inR f.1 4 8 then(f.2.1==0) && (((f.2.2.1.length:Int)==0) && (((f.2.2.2.1.length:Int)==12) && ((f.2.2.2.2.1==0) && (((f.2.2.2.2.2.1.length:Int)==0) && (((f.2.2.2.2.2.2.1.length:Int)==0) && (inR f.2.2.2.2.2.2.2.1 0 4294967295 && (inR f.2.2.2.2.2.2.2.2.1 0 281474976710655 &&
  (Ji f.1 (f.2.2.2.2.2.2.2.2.2.1.length:Int) && ((f.2.2.2.2.2.2.2.2.2.2.1.length:Int)==16)))))))))
 else(f.2.2.2.2.2.2.2.1==0) && ((f.2.2.2.2.2.2.2.2.1==0) && (((f.2.2.2.2.2.2.2.2.2.1.length:Int)==0) && (((f.2.2.2.2.2.2.2.2.2.2.1.length:Int)==0) && (((f.2.2.1.length:Int)==12) &&
  (bif f.1==1 then inR f.2.1 1 9 && (((f.2.2.2.1.length:Int)==0) && ((f.2.2.2.2.1==0) && (((f.2.2.2.2.2.1.length:Int)==0) && ((f.2.2.2.2.2.2.1.length:Int)==0))))
   else bif f.1==2 then(f.2.1==0) && (((f.2.2.2.1.length:Int)==12) && (inR f.2.2.2.2.1 0 1000000 && (((f.2.2.2.2.2.1.length:Int)==16) && ((f.2.2.2.2.2.2.1.length:Int)==0))))
   else(f.1==3) && (inR f.2.1 1 9 && (((f.2.2.2.1.length:Int)==12) && (inR f.2.2.2.2.1 0 1000000 && (((f.2.2.2.2.2.1.length:Int)==16) && ((f.2.2.2.2.2.2.1.length:Int)==16))))))))))
theorem P0 (f:As):Kw f=some (Bm f,()):=by
 unfold Kw Ang Bm
 simp only[Ad,Ae,Aa,Xt,C4,A7z,Ab,Ahi,bne,Bool.cond_false_right,Bool.cond_true_left,Bool.cond_false_left,Bool.not_not]
theorem Jj (f:As):Dd f=some (Bm f,()):=by
 obtain⟨kind,id,cn,sn,tick,cookie,proof,epoch,seq,body,tag,_⟩:=f
 unfold Dd An0 Bm
 simp only[Ad,Ae,Aa,Xs,Cf,Hp,Bxl,Bo1,Bgq,Qs,beq_self_eq_true,Bool.true_and,Bool.and_true,Ab,Ahi,Bool.cond_false_right,Bool.cond_true_left,Bool.cond_false_left,Bool.not_not]
 refine congrArg (fun b=>some (b,())) ?_
 by_cases h1:kind=1
 .subst h1
  apply Kn
  simp[inR]
  grind
 .by_cases h2:kind=2
  .subst h2
   apply Kn
   simp[inR]
   grind
  .by_cases h3:kind=3
   .subst h3
    apply Kn
    simp[inR]
    grind
   .have e1:(kind==1)=false:=by simpa using h1
    have e2:(kind==2)=false:=by simpa using h2
    have e3:(kind==3)=false:=by simpa using h3
    rw[e1,e2,e3]
    cases inR kind 4 8 with
    |false=>simp
    |true=>
     cases hb:Ji kind (body.length:Int)with
     |false=>simp
     |true=>
      apply Kn
      simp[inR]
      grind
def D8 (f:As):List YB:=
 bif !Bm f then []else
 bif f.1==1 then(IntKind.u8.wrap f.1,())::(IntKind.u8.wrap f.2.1,())::(f.2.2.1++List.replicate 20 ((0:Int),()))
 else bif f.1==2 then(IntKind.u8.wrap f.1,())::(f.2.2.1++(f.2.2.2.1++(Fj f.2.2.2.2.1 4 4++f.2.2.2.2.2.1)))
 else bif f.1==3 then(IntKind.u8.wrap f.1,())::(IntKind.u8.wrap f.2.1,())::(f.2.2.1++(f.2.2.2.1++(Fj f.2.2.2.2.1 4 4++(f.2.2.2.2.2.1++f.2.2.2.2.2.2.1))))
 else(IntKind.u8.wrap f.1,())::(f.2.2.2.1++(Fj f.2.2.2.2.2.2.2.1 4 4++(Fj f.2.2.2.2.2.2.2.2.1 6 6++(f.2.2.2.2.2.2.2.2.2.2.1++f.2.2.2.2.2.2.2.2.2.1))))
theorem Bzs (b:List YB) (hl:b.length<=1073741824):Ax Jv (b,(0:Int),())=some (b++List.replicate 20 ((0:Int),()),()):=by
 have hr:=C6 (B:=Jv) 20 (fun i=>(b++List.replicate i ((0:Int),()),(i:Int),())) (b++List.replicate 20 ((0:Int),()),())
  (fun i hi=>by
   unfold Jv
   simp only[Ad,Ag,Aa]
   rw[Ai zq0,Ay,Ai zq1,Ar,w64 zq0,List.append_assoc,<-List.replicate_succ']
   rfl)
  (by unfold Jv;simp only[Ad,Aa,Ag];rfl)
 simpa using hr
theorem Bbi (f:As) (h:A5 f<=536870912):Jf f=some (D8 f,()):=by
 obtain⟨kind,id,cn,sn,tick,cookie,proof,epoch,seq,body,tag,_⟩:=f
 simp only[A5]at h
 unfold Jf Aig D8
 simp only[Ad,Ae,Aa,Ag,P0,Ab]
 cases Bm (kind,id,cn,sn,tick,cookie,proof,epoch,seq,body,tag,PUnit.unit)with
 |false=>rfl
 |true=>
  simp only[Bool.not_true,Aj,cond_false]
  cases kind==1 with
  |true=>
   simp only[Ay,cond_true]
   rw[Ai zq3,Ar,Ai zq1,Ar,Bzs _ zq1]
   simp[ob]
  |false=>
   cases kind==2 with
   |true=>
    simp only[Ay,Aj,cond_true,cond_false]
    rw[Ai zq1,Ar,Ai zq1,Ar,Lh _ _ zq1,Ab,Ai zq4,Ar]
    simp
   |false=>
    cases kind==3 with
    |true=>
     simp only[Ay,Aj,cond_true,cond_false]
     rw[Ai zq3,Ar,Ai zq1,Ar,Ai zq1,Ar,Lh _ _ zq1,Ab,Ai zq4,Ar,Ai zq4,Ar]
     simp
    |false=>
     simp only[Aj,cond_false]
     rw[Ai zq1,Ar,Lh _ _ zq1,Ab,Bpz _ _ zq4,Ab,Ai zq4,Ar,Ai zq4,Ar]
     simp
theorem Awm (f:As) (h:A5 f<=536870912):Ea f=some (D8 f,()):=by
 obtain⟨kind,id,cn,sn,tick,cookie,proof,epoch,seq,body,tag,_⟩:=f
 simp only[A5]at h
 unfold Ea Ai7 D8
 simp only[Ad,Ae,Aa,Ag,Jj,Ab]
 cases Bm (kind,id,cn,sn,tick,cookie,proof,epoch,seq,body,tag,PUnit.unit)with
 |false=>rfl
 |true=>
  simp only[Bool.not_true,Aj,cond_false]
  cases kind==1 with
  |true=>
   simp only[Ay,cond_true]
   rw[Hj _ zq5 zq3]
   simp[ob,cat]
  |false=>
   cases kind==2 with
   |true=>
    simp only[Ay,Aj,cond_true,cond_false]
    rw[Pm _ _ zq3,Ab,Hj _ zq6 zq3]
    simp[ob,cat]
   |false=>
    cases kind==3 with
    |true=>
     simp only[Ay,Aj,cond_true,cond_false]
     rw[Pm _ _ zq3,Ab,Hj _ zq6 zq3]
     simp[ob,cat]
    |false=>
     simp only[Aj,cond_false]
     rw[Pm _ _ zq3,Ab,Bea _ _ zq3,Ab,Hj _ zq6 zq3]
     simp[ob,cat]
def m32 (x:Int):Int:=IntKind.i64.wrap ((BitVec.ofInt (IntKind.i64.bits) x &&& BitVec.ofInt (IntKind.i64.bits) (4294967295:Int)).toNat:Nat)
theorem A2a (x:Int):m32 x=x%4294967296:=by
 have h:((BitVec.ofInt (IntKind.i64.bits) x &&& BitVec.ofInt (IntKind.i64.bits) (4294967295:Int)).toNat:Int)=x%4294967296:=by
  show((BitVec.ofInt 64 x &&& BitVec.ofInt 64 (4294967295:Int)).toNat:Int)=x%4294967296
  rw[BitVec.toNat_and,BitVec.toNat_ofInt,BitVec.toNat_ofInt]
  have e:((4294967295:Int)%((2^64:Nat):Int)).toNat=2^32-1:=by decide
  rw[e,Nat.and_two_pow_sub_one_eq_mod]
  have e2:((2^64:Nat):Int)=18446744073709551616:=by decide
  rw[e2]
  omega
 unfold m32
 rw[h,w64 zq0]
theorem B2k (s:Int):IntKind.i64.wrap s%4294967296=s%4294967296:=by rw[IntKind.wrap_i64];omega
theorem Awn (s:Int):m32 (IntKind.i64.wrap s)=s%4294967296:=by rw[A2a,B2k]
theorem B2l (x:Int):0<=m32 x/\m32 x<=4294967295:=by rw[A2a];omega
theorem Bxm (d t:Int):m32 (IntKind.i64.wrap (d+m32 t))=m32 (IntKind.i64.wrap (d+t)):=by rw[Awn,Awn,A2a];omega
theorem Bxn (t u:Int):m32 (IntKind.i64.wrap (m32 t+m32 u))=m32 (IntKind.i64.wrap (t+u)):=by rw[Awn,Awn,A2a,A2a];omega
def Br7 (x n:Int):Int:=m32 (IntKind.i64.wrap ((BitVec.ofInt (IntKind.i64.bits) (Int.fdiv (m32 x) (2^(min n.toNat IntKind.i64.bits))) ||| BitVec.ofInt (IntKind.i64.bits) (IntKind.i64.wrap (m32 x*2^(min (IntKind.i64.wrap (32-n)).toNat IntKind.i64.bits)))).toNat:Nat))
theorem Bbj (x n:YI) (h1:1<=n.1) (h2:n.1<=31):Mm x n=some (Br7 x.1 n.1,()):=by
 unfold Mm Bdf
 simp only[Ad,Ag,Aa]
 rw[Bk zq0,Bk zq0,Ai zq0,w64 (n:=32-n.1) zq0,Ai zq0]
 simp only[Aj,Ar,Br7]
 rw[w64 (n:=32-n.1) zq0]
 rfl
theorem Bbk (x n:YI) (h1:1<=n.1) (h2:n.1<=31):Mj x n=some (Br7 x.1 n.1,()):=by
 unfold Mj Bc0
 simp only[Ad,Ag,Aa]
 rw[Bk zq0,Bk zq0,Ai zq0,w64 (n:=32-n.1) zq0,Ai zq0]
 simp only[Aj,Ar,Br7]
 rw[w64 (n:=32-n.1) zq0]
 rfl
theorem Bp0 (a b:YI):Al2 a b=some (m32 (IntKind.i64.wrap (a.1+b.1)),()):=rfl
def Rn (l:List YB):Int:=l.foldl (fun n x=>IntKind.i64.wrap (IntKind.i64.wrap (n*256)+IntKind.i64.wrap x.1)) 0
theorem A5r (l:List YB) (x:YB):Rn (l++[x])=IntKind.i64.wrap (IntKind.i64.wrap (Rn l*256)+IntKind.i64.wrap x.1):=by simp[Rn]
def Xu (b:List YB) (p k:Int):YI×YI×(Bool×Unit):=
 if 1<=k/\k<=6/\0<=p/\p+k<=b.length then((Rn ((b.drop p.toNat).take k.toNat),()),(p+k,()),(true,()))else((0,()),(0,()),(false,()))
theorem A2b (b:List YB) (p k:Int) (hl:b.length<=4294967296):Xh (b,()) (p,()) (k,())=some (Xu b p k):=by
 unfold Xh A6j Xu
 simp only[Ad,Ae,Aa]
 by_cases h1:k<1
 .rw[Ai h1,Ay,if_neg zq0]
 rw[Bk h1,Aj]
 by_cases h2:k>6
 .rw[Ai h2,Ay,if_neg zq0]
 rw[Bk h2,Aj]
 by_cases h3:p<0
 .rw[Ai h3,Ay,if_neg zq0]
 rw[Bk h3,Aj,w64 (n:=(b.length:Int)-k) zq0]
 by_cases h4:p>(b.length:Int)-k
 .rw[Ai h4,Ay,if_neg zq0]
 rw[Bk h4,Aj,if_pos zq0]
 have hr:=C6 (B:=Uk) k.toNat (fun i=>(b,p,k,Rn ((b.drop p.toNat).take i),(i:Int),())) (p,k,Rn ((b.drop p.toNat).take k.toNat),())
  (fun i hi=>by
   have hlt:p.toNat+i<b.length:=by omega
   have hx:=List.getElem?_eq_getElem hlt
   have hx2:(b.drop p.toNat)[i]? =some b[p.toNat+i]:=by rw[List.getElem?_drop];exact hx
   unfold Uk
   simp only[Ad,Ae,Aa]
   rw[Ai zq0,Ay,w64 (n:=p+(i:Int)) zq0,show p+(i:Int)=((p.toNat+i:Nat):Int) by omega,Bc hx,Ab,w64 (n:=(i:Int)+1) zq0,<-E9 hx2,A5r]
   rfl)
  (by
   unfold Uk
   simp only[Ad,Ae,Aa]
   rw[Bk zq0,Aj])
 rw[show Ax Uk (b,p,k,(0:Int),(0:Int),())=_ from hr,Ab]
 simp only
 rw[w64 zq0]
theorem B2m (b:List YB) (p n:Int) (hl:b.length<=4294967296):Bd2 (b,()) (p,()) (n,())=some (if 0<=p/\0<=n/\p+n<=b.length then(((b.drop p.toNat).take n.toNat,()),(true,()))else(([],()),(false,()))):=by
 unfold Bd2 Bdc
 simp only[Ad,Ag,Aa]
 by_cases h1:p<0
 .rw[Ai h1,Ay,if_neg zq0]
 rw[Bk h1,Aj]
 by_cases h2:n<0
 .rw[Ai h2,Ay,if_neg zq0]
 rw[Bk h2,Aj]
 by_cases h3:p>(b.length:Int)
 .rw[Ai h3,Ay,if_neg zq0]
 rw[Bk h3,Aj,w64 (n:=(b.length:Int)-p) zq0]
 by_cases h4:n>(b.length:Int)-p
 .rw[Ai h4,Ay,if_neg zq0]
 rw[Bk h4,Aj,if_pos zq0,w64 (n:=p+n) zq0,Ai zq0,Ai zq0,Ai zq0,Ai zq1]
 simp only[Ar,List.nil_append]
 rw[show(p+n).toNat=p.toNat+n.toNat by omega,List.drop_take,Nat.add_sub_cancel_left]
theorem Bu9 (b:List YB) (p k:Int) (hl:b.length<=4294967296):Avu (b,()) (p,()) (k,())=some (Xu b p k):=by
 unfold Avu A65 Xu
 simp only[Ad,Ae,Aa]
 by_cases h1:k<1
 .rw[Ai h1,Ay,if_neg zq0]
 rw[Bk h1,Aj]
 by_cases h2:k>6
 .rw[Ai h2,Ay,if_neg zq0]
 rw[Bk h2,Aj,B2m _ _ _ hl,Ab]
 by_cases h3:0<=p/\0<=k/\p+k<=b.length
 .rw[if_pos h3,if_pos zq0]
  simp only[Bool.not_true,Aj]
  have hlen:((b.drop p.toNat).take k.toNat).length=k.toNat:=by simp;omega
  have hr:=C6 (B:=Ur) k.toNat (fun i=>(p,k,Rn (((b.drop p.toNat).take k.toNat).take i),(b.drop p.toNat).take k.toNat,(((b.drop p.toNat).take k.toNat).length:Int),(i:Int),())) (p,k,Rn ((b.drop p.toNat).take k.toNat),())
   (fun i hi=>by
    have hx:=List.getElem?_eq_getElem (show i<((b.drop p.toNat).take k.toNat).length by omega)
    unfold Ur
    simp only[Ad,Ae,Aa]
    rw[Ai zq0,Ay,Bc hx,Ab,w64 (n:=(i:Int)+1) zq0,<-E9 hx,A5r,Int.mul_comm 256]
    rfl)
   (by
    unfold Ur
    simp only[Ad,Ae,Aa]
    rw[Bk zq0,Aj,List.take_take,Nat.min_self])
  rw[show Ax Ur (p,k,(0:Int),(b.drop p.toNat).take k.toNat,(((b.drop p.toNat).take k.toNat).length:Int),(0:Int),())=_ from hr,Ab]
  simp only
  rw[w64 zq0]
 .rw[if_neg h3,if_neg zq0]
  rfl
theorem Awo {E:Type} {l z:List E} {n:Int} (h0:0<=n) (h1:n<l.length):idx (l++z) n=idx l n:=by
 unfold idx
 rw[if_pos h0,if_pos h0,List.getElem?_append_left zq0]
theorem Bgs {l:List YI} {i k:Nat} (h:l.length=i) (hk:i<k) (x:YI):(l++List.replicate (k-i) ((0:Int),())).set i x=(l++[x])++List.replicate (k-(i+1)) ((0:Int),()):=by
 rw[List.set_append_right _ _ zq0,h,Nat.sub_self,show k-i=(k-(i+1))+1 by omega,List.replicate_succ,List.set_cons_zero]
 simp
theorem Blh {l:List YI} {i k:Nat} (h:l.length=i) (hk:i<k):idx (l++List.replicate (k-i) ((0:Int),())) (i:Int)=some ((0:Int),()):=by
 rw[Bi6,List.getElem?_append_right zq0,h,Nat.sub_self,List.getElem?_replicate,if_pos zq0]
theorem Bo2 (b:List YB) (hl:b.length<=4294967296): ∃r,Akc (b,())=some (r,())/\Aj3 (b,())=some (r,())/\(b.length=64->r.length=64):=by
 unfold Akc Aao Aj3 Aab
 simp only[Ad,Ae,Aa]
 by_cases h:b.length=64
 .rw[Ce (by simp[h]),Ce (by simp[h])]
  obtain⟨o1,o2,h1,h2,hq⟩:=Xo (B1:=Lb) (B2:=K7)
   (fun i d1 d2=>∃l:List YI,l.length=i/\d1=(b,l++List.replicate (64-i) ((0:Int),()),(i:Int),())/\d2=(b,l,(i:Int),()))
   (fun o1 o2=>o2.1.length=16/\o1=(o2.1++List.replicate 48 ((0:Int),()),())) 16
   (by
    rintro i d1 d2 hi ⟨l,hll,rfl,rfl⟩
    left
    unfold Lb K7
    simp only[Ad,Ae,Aa,Ag]
    rw[Ai zq0,Ay,Ay,w64 (n:=4*(i:Int)) zq0,Bu9 _ _ _ hl,A2b _ _ _ hl,Ab,Ab,Blh hll zq0,Ab,Ai zq1,Ar,w64 zq0,Int.toNat_natCast,Bgs hll zq0]
    exact⟨_,_,rfl,rfl,l++[(Xu b (4*(i:Int)) 4).1],by simp[hll],rfl,rfl⟩)
   (by
    rintro d1 d2 ⟨l,hll,rfl,rfl⟩
    unfold Lb K7
    simp only[Ad,Ae,Aa,Ag]
    rw[Bk zq0,Aj,Aj]
    exact⟨_,_,rfl,rfl,hll,by simp only[Nat.reduceSub]⟩)
   (d1:=(b,List.replicate 64 ((0:Int),()),(0:Int),())) (d2:=(b,[],(0:Int),())) ⟨[],rfl,by simp only[Nat.sub_zero,List.nil_append,Int.natCast_zero],by simp only[Int.natCast_zero]⟩
  rw[show(64:Int).toNat=64 from rfl,h1,h2,Ab,Ab]
  obtain⟨hq1,rfl⟩:=hq
  obtain⟨o3,o4,h3,h4,hq⟩:=Xo (B1:=Lc) (B2:=Jw)
   (fun i d1 d2=>∃l:List YI,l.length=16+i/\d1=(l++List.replicate (64-(16+i)) ((0:Int),()),((16+i:Nat):Int),())/\d2=(l,((16+i:Nat):Int),()))
   (fun o1 o2=>o1=o2/\o2.1.length=64) 48
   (by
    rintro i d1 d2 hi ⟨l,hll,rfl,rfl⟩
    left
    obtain⟨e1,g1,_⟩:=Xp (l:=l) (n:=((16+i:Nat):Int)-15) zq0 zq0
    obtain⟨e2,g2,_⟩:=Xp (l:=l) (n:=((16+i:Nat):Int)-2) zq0 zq0
    obtain⟨e3,g3,_⟩:=Xp (l:=l) (n:=((16+i:Nat):Int)-7) zq0 zq0
    obtain⟨e4,g4,_⟩:=Xp (l:=l) (n:=((16+i:Nat):Int)-16) zq0 zq0
    unfold Lc Jw
    simp only[Ad,Ae,Aa,Ag]
    rw[Ai zq0,Ay,Ay,w64 (n:=((16+i:Nat):Int)-15) zq0,w64 (n:=((16+i:Nat):Int)-2) zq0,w64 (n:=((16+i:Nat):Int)-7) zq0,w64 (n:=((16+i:Nat):Int)-16) zq0,
     w64 (n:=((16+i:Nat):Int)+1) zq0]
    rw[Awo zq0 zq0,g1,Ab,Awo zq0 zq0,g2,Ab,Bbj _ _ zq7 zq7,Ab,Bbj _ _ zq7 zq7,Ab,Bbj _ _ zq7 zq7,Ab,Bbj _ _ zq7 zq7,Ab,Awo zq0 zq0,g3,Ab,Awo zq0 zq0,g4,Ab,Blh hll zq0,Ab]
    rw[Ab,Ab,Bbk _ _ zq7 zq7,Ab,Bbk _ _ zq7 zq7,Ab,Bbk _ _ zq7 zq7,Ab,Bbk _ _ zq7 zq7,Ab,Ab,Ab,Int.toNat_natCast]
    generalize IntKind.i64.wrap (((BitVec.ofInt _ _ &&& BitVec.ofInt _ (4294967295:Int)).toNat:Nat):Int)=z
    rw[Ai (by rw[List.length_singleton];omega),Ar,Bgs hll zq0]
    exact⟨_,_,rfl,rfl,_,by simp[hll];omega,rfl,rfl⟩)
   (by
    rintro d1 d2 ⟨l,hll,rfl,rfl⟩
    unfold Lc Jw
    simp only[Ad,Ae,Aa,Ag]
    rw[Bk zq0,Aj,Aj]
    exact⟨_,_,rfl,rfl,by simp,by omega⟩)
   (d1:=(o2.1++List.replicate 48 ((0:Int),()),(16:Int),())) (d2:=(o2.1,(16:Int),())) ⟨o2.1,hq1,by simp only[Nat.add_zero,Nat.reduceSub];rfl,rfl⟩
  rw[h3,h4]
  obtain⟨rfl,hq2⟩:=hq
  exact⟨o3.1,rfl,rfl,fun _=>hq2⟩
 .have h': ¬((b.length:Int)=64):=by omega
  rw[Dj (by simpa using h'),Dj (by simpa using h')]
  exact⟨[],rfl,rfl,fun h2=>(h h2).elim⟩
def kL:List YI:=V5.map fun x=>(x,())
theorem B2n:Bps=some (kL,()):=rfl
theorem Bo3 (n:YI):Ayn n=some (Aew n.1,()):=rfl
theorem B2o (i:Nat) (h:i<64):idx kL (i:Int)=some (Aew (i:Int),()):=by
 rw[Bi6]
 unfold kL Aew
 rw[List.getElem?_map,if_pos zq0,Int.toNat_natCast]
 have:i<V5.length:=by simpa [V5] using h
 rw[List.getElem?_eq_getElem this];rfl
theorem Bva (l:List YI) (hl:l.length<=4294967296):Aow (l,())=some (Fy l && ((l.length:Int)==8),()):=by
 have h:=Fk (B:=Q9) l (fun i=>(l,(i:Int),())) (fun _ e=> !inR e.1 0 4294967295) (false,()) (l,())
  (fun i x hi hx=>by
   unfold Q9
   simp (disch:=omega) only[Ad,Ae,Aa,Bw hi,Ay,Bc hx,Ab,C4,w64]
   rfl)
  (by unfold Q9;simp only[Ad,Ae,Aa,B7,Aj])
 unfold Aow Ani
 simp only[Ae,Az,Aa]
 rw[show((0:Int))=((0:Nat):Int)from rfl,h]
 unfold Fy
 cases Dz (fun _ (e:YI)=> !inR e.1 0 4294967295) l<;>rfl
theorem Bvb (x:BitVec IntKind.i64.bits):BitVec.ofInt (IntKind.i64.bits) (4294967295:Int) ^^^ x=x ^^^ BitVec.ofInt (IntKind.i64.bits) (4294967295:Int):=BitVec.xor_comm _ _
theorem Ahj {l:List YI}:Fy l=true↔ ∀(j:Nat) (x:YI),l[j]? =some x->0<=x.1/\x.1<=4294967295:=by
 unfold Fy
 rw[Hq]
 simp only[Bool.not_eq_false',Bt]
theorem Bvc (h out w:List YI) (hw:w.length=64) (a b c d e f g z:Int):
  ∃a' b' c' d' e' f' g' z',Ax Iw (h,out,w,a,b,c,d,e,f,g,z,(0:Int),())=some (h,out,a',b',c',d',e',f',g',z',())/\
   Ax Iv (h,out,kL,w,a,b,c,d,e,f,g,z,(0:Int),())=some (h,out,a',b',c',d',e',f',g',z',()):=by
 obtain⟨o1,o2,h1,h2,hq⟩:=Xo (B1:=Iw) (B2:=Iv)
  (fun i d1 d2=>∃a b c d e f g z:Int,d1=(h,out,w,a,b,c,d,e,f,g,z,(i:Int),())/\d2=(h,out,kL,w,a,b,c,d,e,f,g,z,(i:Int),()))
  (fun o1 o2=>o1=o2/\ ∃a b c d e f g z:Int,o1=(h,out,a,b,c,d,e,f,g,z,())) 64
  (by
   rintro i d1 d2 hi ⟨a,b,c,d,e,f,g,z,rfl,rfl⟩
   left
   obtain⟨x,hx⟩: ∃x,w[i]? =some x:=⟨_,List.getElem?_eq_getElem zq0⟩
   have hk:=B2o i hi
   unfold Iw Iv
   simp only[Ad,Ae,Aa,Ag]
   rw[Ai zq0,Ay,Ay]
   simp (disch:=decide) only[Bbj,Bbk,Ab,Bo3,Bc hx,hk,Bp0,Bvb]
   rw[w64 (n:=(i:Int)+1) zq0]
   refine⟨_,_,rfl,rfl,_,_,_,_,_,_,_,_,rfl,?_⟩
   simp only[Prod.mk.injEq,true_and,and_true]
   exact⟨Bxn _ _,Bxm _ _,by omega⟩)
  (by
   rintro d1 d2 ⟨a,b,c,d,e,f,g,z,rfl,rfl⟩
   unfold Iw Iv
   simp only[Ad,Ae,Aa,Ag]
   exact⟨_,_,rfl,rfl,rfl,_,_,_,_,_,_,_,_,rfl⟩)
  (d1:=(h,out,w,a,b,c,d,e,f,g,z,(0:Int),())) (d2:=(h,out,kL,w,a,b,c,d,e,f,g,z,(0:Int),())) ⟨a,b,c,d,e,f,g,z,rfl,rfl⟩
 obtain⟨rfl,a',b',c',d',e',f',g',z',rfl⟩:=hq
 exact⟨_,_,_,_,_,_,_,_,h1,h2⟩
theorem Bzt (h l:List YI) (hh:h.length=8) (hl:l.length=8): ∃r:List YI,r.length=8/\Fy r=true/\Ax H7 (h,h,l,(l.length:Int),(0:Int),())=some (r,())/\Ax H5 (h,h,l,(0:Int),())=some (r,()):=by
 obtain⟨o1,o2,h1,h2,hq⟩:=Xo (B1:=H7) (B2:=H5)
  (fun i d1 d2=>∃out:List YI,out.length=8/\(∀j x,j<i->out[j]? =some x->0<=x.1/\x.1<=4294967295)/\d1=(h,out,l,(l.length:Int),(i:Int),())/\d2=(h,out,l,(i:Int),()))
  (fun o1 o2=>o1=o2/\o1.1.length=8/\Fy o1.1=true) 8
  (by
   rintro i d1 d2 hi ⟨out,ho,hb,rfl,rfl⟩
   left
   obtain⟨x,hx⟩: ∃x,h[i]? =some x:=⟨_,List.getElem?_eq_getElem zq0⟩
   obtain⟨y,hy⟩: ∃y,l[i]? =some y:=⟨_,List.getElem?_eq_getElem zq0⟩
   obtain⟨q,hq⟩: ∃q,out[i]? =some q:=⟨_,List.getElem?_eq_getElem zq0⟩
   unfold H7 H5
   simp only[Ad,Ae,Aa,Ag]
   rw[Ai zq0,Ai zq0,Ay,Ay]
   simp only[Bc hx,Bc hy,Bc hq,Ab,Bp0,Int.toNat_natCast]
   rw[w64 (n:=(i:Int)+1) zq0]
   refine⟨_,_,rfl,rfl,out.set i (m32 (IntKind.i64.wrap (x.1+y.1)),()),by simp[ho],fun j v hj hv=>?_,rfl,rfl⟩
   rw[List.getElem?_set]at hv
   split at hv
   .rename_i e
    subst e
    split at hv
    .simp at hv;subst hv;exact B2l _
    .cases hv
   .exact hb j v zq0 hv)
  (by
   rintro d1 d2 ⟨out,ho,hb,rfl,rfl⟩
   unfold H7 H5
   simp only[Ad,Ae,Aa,Ag]
   rw[Bk zq0,Aj]
   refine⟨_,_,rfl,rfl,rfl,ho,?_⟩
   rw[Ahj]
   intro j x hx
   exact hb j x (by have:=(List.getElem?_eq_some_iff.1 hx).1;dsimp only at this;omega) hx)
  (d1:=(h,h,l,(l.length:Int),(0:Int),())) (d2:=(h,h,l,(0:Int),())) ⟨h,hh,fun j x hj=>by omega,rfl,rfl⟩
 obtain⟨rfl,hq1,hq2⟩:=hq
 exact⟨o1.1,hq1,hq2,h1,h2⟩
theorem Apf (h:List YI) (b:List YB) (hh:h.length<=1073741824) (hb:b.length<=4294967296):
  ∃r,Tm (h,()) (b,())=some (r,())/\Aa3 (h,()) (b,())=some (r,())/\r.length=h.length/\(Fy h=true->Fy r=true):=by
 obtain⟨w,hw1,hw2,hw3⟩:=Bo2 b hb
 unfold Tm Aap Aa3 Aac
 simp only[Ad,Ae,Aa,Ag,List.nil_append,List.length_nil,Nat.zero_add]
 rw[Ai zq0,Ar,Ar,Awj _ _ zq0,Bva _ zq0,Ab,Ab]
 cases hwb:(Fy h && ((h.length:Int)==8))with
 |false=>exact⟨h,rfl,rfl,rfl,id⟩
 |true=>
  have hlen:h.length=8:=by simp at hwb;omega
  have hwd:Fy h=true:=by simp at hwb;exact hwb.1
  simp only[Bool.not_true,Aj]
  by_cases hb64:b.length=64
  .rw[Ce (by simp[hb64]),Ce (by simp[hb64]),hw1,hw2,B2n]
   simp only[Ab]
   match h,hlen with
   |[x0,x1,x2,x3,x4,x5,x6,x7],_=>
    simp only[show idx [x0,x1,x2,x3,x4,x5,x6,x7] (0:Int)=some x0 from rfl,show idx [x0,x1,x2,x3,x4,x5,x6,x7] (1:Int)=some x1 from rfl,show idx [x0,x1,x2,x3,x4,x5,x6,x7] (2:Int)=some x2 from rfl,show idx [x0,x1,x2,x3,x4,x5,x6,x7] (3:Int)=some x3 from rfl,
     show idx [x0,x1,x2,x3,x4,x5,x6,x7] (4:Int)=some x4 from rfl,show idx [x0,x1,x2,x3,x4,x5,x6,x7] (5:Int)=some x5 from rfl,show idx [x0,x1,x2,x3,x4,x5,x6,x7] (6:Int)=some x6 from rfl,show idx [x0,x1,x2,x3,x4,x5,x6,x7] (7:Int)=some x7 from rfl,Ab]
    obtain⟨a',b',c',d',e',f',g',z',q1,q2⟩:=Bvc [x0,x1,x2,x3,x4,x5,x6,x7] [x0,x1,x2,x3,x4,x5,x6,x7] w (hw3 hb64) x0.1 x1.1 x2.1 x3.1 x4.1 x5.1 x6.1 x7.1
    rw[q1,q2]
    simp only[Ab]
    obtain⟨r,r1,r2,r3,r4⟩:=Bzt [x0,x1,x2,x3,x4,x5,x6,x7] [(a',()),(b',()),(c',()),(d',()),(e',()),(f',()),(g',()),(z',())] rfl rfl
    rw[r3,r4]
    exact⟨r,rfl,rfl,r1,fun _=>r2⟩
  .have h': ¬((b.length:Int)=64):=by omega
   rw[Dj (by simpa using h'),Dj (by simpa using h')]
   exact⟨h,rfl,rfl,rfl,id⟩
def J6 (h:List YI) (b:List YB):List YI:=match Tm (h,()) (b,())with|some r=>r.1|none=>[]
theorem Br8 (h:List YI) (b:List YB) (hh:h.length<=1073741824) (hb:b.length<=4294967296):Tm (h,()) (b,())=some (J6 h b,()):=by
 obtain⟨r,h1,h2,_⟩:=Apf h b hh hb
 unfold J6;rw[h1]
theorem Br9 (h:List YI) (b:List YB) (hh:h.length<=1073741824) (hb:b.length<=4294967296):Aa3 (h,()) (b,())=some (J6 h b,()):=by
 obtain⟨r,h1,h2,_⟩:=Apf h b hh hb
 unfold J6;rw[h1,h2]
theorem Akr (h:List YI) (b:List YB) (hh:h.length<=1073741824) (hb:b.length<=4294967296):(J6 h b).length=h.length/\(Fy h=true->Fy (J6 h b)=true):=by
 obtain⟨r,h1,h2,h3,h4⟩:=Apf h b hh hb
 unfold J6;rw[h1];exact⟨h3,h4⟩
def Iq (h:List YI) (b:List YB):List YI×List YB:=if 64<=b.length then Iq (J6 h (b.take 64)) (b.drop 64)else(h,b)
termination_by b.length
decreasing_by simp;omega
theorem Ae7 {h:List YI} {b:List YB} (hb:64<=b.length):Iq h b=Iq (J6 h (b.take 64)) (b.drop 64):=by rw[Iq,if_pos hb]
theorem P3 {h:List YI} {b:List YB} (hb: ¬64<=b.length):Iq h b=(h,b):=by rw[Iq,if_neg hb]
theorem Bxo: ∀(n:Nat) (h:List YI) (b p:List YB),b.length<=n->Iq h (b++p)=Iq (Iq h b).1 ((Iq h b).2++p):=by
 intro n
 induction n with
 |zero=>intro h b p hn;rw[P3 (b:=b) zq0]
 |succ n ih=>
  intro h b p hn
  by_cases hb:64<=b.length
  .rw[Ae7 (b:=b) hb,Ae7 (b:=b++p) zq1,List.take_append_of_le_length hb,List.drop_append_of_le_length hb]
   exact ih _ _ _ zq1
  .rw[P3 (b:=b) hb]
theorem Arj: ∀(n:Nat) (h:List YI) (b:List YB),b.length<=n->h.length<=1073741824->(Iq h b).2.length=b.length%64/\(Iq h b).1.length=h.length/\(Fy h=true->Fy (Iq h b).1=true):=by
 intro n
 induction n with
 |zero=>intro h b hn hh;rw[P3 zq0];exact⟨by simp;omega,rfl,id⟩
 |succ n ih=>
  intro h b hn hh
  by_cases hb:64<=b.length
  .rw[Ae7 hb]
   have hc:=Akr h (b.take 64) hh zq1
   obtain⟨h1,h2,h3⟩:=ih (J6 h (b.take 64)) (b.drop 64) zq1 zq0
   refine⟨?_,by omega,fun hw=>h3 (hc.2 hw)⟩
   rw[h1,List.length_drop];omega
  .rw[P3 hb];exact⟨by simp only;omega,rfl,id⟩
theorem Ayo (h:List YI) (b:List YB) (hh:h.length<=1073741824) (hb:b.length<=4294967296):Sl (h,()) (b,())=some (((Iq h b).1,()),((Iq h b).2,())):=by
 have key: ∀(n:Nat) (h:List YI) (b:List YB),b.length<=n->h.length<=1073741824->b.length<=4294967296->Ax Gr (h,b,())=some ((Iq h b).1,(Iq h b).2,()):=by
  intro n
  induction n with
  |zero=>
   intro h b hn hh hb
   rw[P3 zq0,Dk]
   unfold Gr
   simp only[Ad,Ag,Ae,Aa]
   rw[Bk zq0,Aj]
  |succ n ih=>
   intro h b hn hh hb
   rw[Dk]
   by_cases h64:64<=b.length
   .have hB:Gr (h,b,())=some (.inl (J6 h (b.take 64),b.drop 64,())):=by
     unfold Gr
     simp only[Ad,Ag,Ae,Aa]
     rw[Ai zq0,Ay,Ai zq0]
     simp only[Ar,show(64:Int).toNat=64 from rfl,show(0:Int).toNat=0 from rfl,List.drop_zero,Int.toNat_natCast,List.take_length]
     rw[Br8 _ _ hh zq1,Ab]
    have hc:=Akr h (b.take 64) hh zq1
    rw[hB,Ae7 h64,<-ih (J6 h (b.take 64)) (b.drop 64) zq1 zq0 zq1]
   .unfold Gr
    simp only[Ad,Ag,Ae,Aa]
    rw[Bk zq0,Aj,P3 h64]
 unfold Sl Aar
 simp only[Ae,Aa]
 rw[key _ h b (Nat.le_refl _) hh hb]
 rfl
theorem Bvd (all:List YB) (ha:all.length<=4294967296): ∀(n i:Nat) (h:List YI),all.length-i<=n->i<=all.length->(all.length-i)%64=0->h.length<=1073741824->Ax X8 (all,h,(i:Int),())=some ((Iq h (all.drop i)).1,()):=by
 intro n
 induction n with
 |zero=>
  intro i h hn hi hm hh
  rw[P3 zq1,Dk]
  unfold X8
  simp only[Ad,Ag,Ae,Aa]
  rw[Bk zq0,Aj]
 |succ n ih=>
  intro i h hn hi hm hh
  rw[Dk]
  unfold X8
  simp only[Ad,Ag,Ae,Aa]
  by_cases h64:i<all.length
  .rw[Ai zq0,Ay,Ai zq0,Ar,w64 (n:=(i:Int)+64) zq0,Ai zq0,Ar,Ai zq0,Ar]
   have e:(all.take ((i:Int)+64).toNat).drop ((i:Int)).toNat=(all.drop i).take 64:=by
    rw[show((i:Int)+64).toNat=i+64 by omega,Int.toNat_natCast,List.drop_take,Nat.add_sub_cancel_left]
   rw[e,Br9 _ _ hh zq1,Ab]
   simp only
   have hc:=Akr h ((all.drop i).take 64) hh zq1
   rw[Ae7 (b:=all.drop i) zq1,List.drop_drop,show(i:Int)+64=((i+64:Nat):Int) by omega]
   exact ih (i+64) _ zq0 zq0 zq0 zq0
  .rw[Bk zq0,Aj,P3 zq1]
theorem Bli (m:Int) (j:Nat) (h0:0<=m) (h1:m<4294967296) (hj:4<=j) (hj2:j<=7):byt m j=((0:Int),()):=by
 have e:Int.fdiv m (2^(min (8*j) IntKind.i64.bits))=0:=by
  have hp:(4294967296:Int)<=2^(min (8*j) IntKind.i64.bits):=by
   have:j=4\/j=5\/j=6\/j=7:=by omega
   rcases this with rfl|rfl|rfl|rfl<;>decide
  rw[Int.fdiv_eq_ediv_of_nonneg _ zq0]
  exact Int.ediv_eq_zero_of_lt h0 zq0
 unfold byt
 rw[e];rfl
def Apg (n:Nat):Nat:=(64-(n+9)%64)%64
def Ac6 (n:Nat):List YB:=(((128:Int),())::List.replicate (Apg n) ((0:Int),()))++([((0:Int),()),((0:Int),())]++Fj (8*(n:Int)) 6 6)
theorem Blj (n:Nat):(Ac6 n).length=Apg n+9:=by simp[Ac6,Fe]
theorem Bp1 (n:Nat) (h:n<=1048576):Ax Te ((n:Int),[((128:Int),())],())=some ((n:Int),((128:Int),())::List.replicate (Apg n) ((0:Int),()),()):=by
 have hk:Apg n=(64-(n+9)%64)%64:=rfl
 refine C6 (B:=Te) (Apg n) (fun i=>((n:Int),((128:Int),())::List.replicate i ((0:Int),()),())) _ (fun i hi=>?_) ?_
 .unfold Te
  simp only[Ad,Ag,Aa,List.length_cons,List.length_replicate]
  rw[w64 (n:=(n:Int)+((i+1:Nat):Int)) zq0,w64 zq0,Ai zq0,Ar,Dj zq1,Ai zq1,Ar,List.cons_append,<-List.replicate_succ']
 .unfold Te
  simp only[Ad,Ag,Aa,List.length_cons,List.length_replicate]
  rw[w64 (n:=(n:Int)+((Apg n+1:Nat):Int)) zq0,w64 zq0,Ai zq0,Ar,Ce zq1]
theorem B2p (n:Nat) (h:n<=1048576):Bd3 ((n:Int),())=some (Ac6 n,()):=by
 have hk:Apg n<64:=Nat.mod_lt _ zq0
 unfold Bd3 Bdh
 simp only[Ad,Ag,Ae,Aa,Cf,Ab]
 rw[Ce zq8,Bp1 n h,Ab,Ai zq1,Ar,w64 zq0,Bea _ _ zq1,Ab]
 unfold Ac6
 simp
theorem B2q (n:Nat) (h:n<=1048576):Bdz ((n:Int),())=some (Ac6 n,()):=by
 have hk:Apg n<64:=Nat.mod_lt _ zq0
 unfold Bdz Bcy
 simp only[Ad,Ag,Ae,Aa,Ab]
 rw[Bk zq0,Aj,Bk zq0,Aj,show Azp=Te from rfl,Bp1 n h,Ab,Lh _ _ zq1,Ab,Lh _ _ zq4,Ab,w64 zq0]
 unfold Ac6
 have e0:Fj 0 4 4=[((0:Int),()),((0:Int),()),((0:Int),()),((0:Int),())]:=by
  unfold Fj
  simp only[show List.range 4=[0,1,2,3]from rfl,List.map]
  rfl
 have e6:Fj (8*(n:Int)) 6 6=[((0:Int),()),((0:Int),())]++Fj (8*(n:Int)) 4 4:=by
  have a:=Bli (8*(n:Int)) 5 zq0 zq0 zq0 zq0
  have b:=Bli (8*(n:Int)) 4 zq0 zq0 zq0 zq0
  unfold Fj
  simp only[show List.range 4=[0,1,2,3]from rfl,show List.range 6=[0,1,2,3,4,5]from rfl,List.map]
  rw[show 6-1-0=5 from rfl,show 6-1-1=4 from rfl,a,b]
  rfl
 rw[e0,e6]
 simp
def Ac7 (l:List YI):List YB:=l.flatMap fun x=>Fj x.1 4 4
theorem Awp (l:List YI):(Ac7 l).length=4*l.length:=by
 unfold Ac7
 induction l with
 |nil=>rfl
 |cons x r ih=>simp only[List.flatMap_cons,List.length_append,Fe,ih,List.length_cons];omega
theorem Bgt (l:List YI) (x:YI):Ac7 (l++[x])=Ac7 l++Fj x.1 4 4:=by simp[Ac7]
theorem Bo4 (l:List YI) (h:l.length<=1048576):Agh (l,())=some (Ac7 l,()):=by
 have hr:=C6 (B:=Jz) l.length (fun i=>(Ac7 (l.take i),l,(l.length:Int),(i:Int),())) (Ac7 l,())
  (fun i hi=>by
   have hx:=List.getElem?_eq_getElem hi
   unfold Jz
   simp only[Ad,Ae,Aa,Bw hi,Ay,Bc hx,Ab]
   rw[Pm _ _ (by rw[Awp];simp;omega),Ab,w64 zq0,<-E9 hx,Bgt]
   rfl)
  (by unfold Jz;simp only[Ad,Aa,B7,Aj,List.take_length])
 unfold Agh Afw
 simp only[Ae,Aa]
 rw[show Ax Jz ([],l,(l.length:Int),(0:Int),())=_ from hr]
 rfl
theorem Bzu (l:List YI) (h:l.length=8):A1o (l,())=some (Ac7 l,()):=by
 have hr:=C6 (B:=Rt) 8 (fun i=>(l,Ac7 (l.take i),(i:Int),())) (Ac7 l,())
  (fun i hi=>by
   have hx:=List.getElem?_eq_getElem (show i<l.length by omega)
   unfold Rt
   simp only[Ad,Ae,Aa]
   rw[Ai zq0,Ay,Bc hx,Ab,Lh _ _ (by rw[Awp];simp;omega),Ab,w64 zq0,<-E9 hx,Bgt]
   rfl)
  (by unfold Rt;simp only[Ad,Aa];rw[Bk zq0,Aj,<-h,List.take_length])
 unfold A1o Azs
 simp only[Ae,Aa]
 rw[show Ax Rt (l,[],(0:Int),())=_ from hr]
 rfl
def F0:List YI:=[((1779033703:Int),()),((3144134277:Int),()),((1013904242:Int),()),((2773480762:Int),()),((1359893119:Int),()),((2600822924:Int),()),((528734635:Int),()),((1541459225:Int),())]
theorem Bve:Fy F0=true:=by decide
def A2c (h:Sj):Bool:=(Fy h.1 && ((h.1.length:Int)==8)) && (inR h.2.2.1 0 1048576 && ((h.2.2.1%64)==(h.2.1.length:Int)))
theorem Blk (h:Sj) (hl:h.1.length<=4294967296):Ahb h=some (A2c h,()):=by
 unfold Ahb Aud A2c
 simp only[Ad,Ag,Ae,Aa,Cf,Ab]
 rw[Awj _ _ hl,Ab]
 cases (Fy h.1 && ((h.1.length:Int)==8))with
 |false=>rfl
 |true=>
  cases hn:inR h.2.2.1 0 1048576 with
  |false=>rfl
  |true=>
   have:=Bt.1 hn
   simp only[Ay]
   rw[Ai zq0,Ar]
   simp
def sha (b:List YB):List YB:=if b.length<=1048576 then Ac7 (Iq F0 (b++Ac6 b.length)).1 else []
theorem Bp2 (b:List YB):(sha b).length=32\/(sha b).length=0:=by
 unfold sha
 split
 .left
  rw[Awp,(Arj _ F0 _ (Nat.le_refl _) zq7).2.1];rfl
 .right;rfl
theorem Bsa (b:List YB):Aq2 (b,())=some (sha b,()):=by
 unfold Aq2 Bc2 sha
 simp only[Ad,Ag,Ae,Aa,List.nil_append,List.length_nil,Nat.zero_add]
 by_cases h:b.length<=1048576
 .have hp:=Blj b.length
  have hk:Apg b.length=(64-(b.length+9)%64)%64:=rfl
  have hl:=Bvd (b++Ac6 b.length) zq1 (b++Ac6 b.length).length 0 F0 zq0 zq0 zq1 zq7
  rw[List.drop_zero]at hl
  rw[Bk zq0,Aj,Ai zq0,Ar,B2q _ h,Ab,Ai zq1,Ar,show Bgl=some (F0,())from rfl,Ab]
  rw[show Ax X8 (b++Ac6 b.length,F0,(0:Int),())=_ from hl,Ab]
  rw[Bzu _ ((Arj _ F0 _ (Nat.le_refl _) zq7).2.1),if_pos h]
  rfl
 .rw[Ai zq0,Ay,if_neg h]
theorem Bsb (b:List YB) (hb:b.length<=4294967296):Aq9 (b,())=some (sha b,()):=by
 unfold Aq9 Bdk sha
 simp only[Ad,Ae,Aa]
 by_cases h:b.length<=1048576
 .have hp:=Blj b.length
  have hk:Apg b.length=(64-(b.length+9)%64)%64:=rfl
  have hc:=Arj _ F0 b (Nat.le_refl _) zq7
  have h8:F0.length=8:=rfl
  have hc21:=hc.2.1
  have hc1:=hc.1
  have e1:Ao1 (F0,[],0,()) (b,())=some ((Iq F0 b).1,(Iq F0 b).2,(b.length:Int),()):=by
   unfold Ao1 An2
   simp only[Ad,Ag,Ae,Aa,List.nil_append,List.length_nil,Nat.zero_add]
   rw[Blk _ zq7,Ab,show A2c (F0,[],0,())=true by decide]
   simp only[Bool.not_true,Aj]
   rw[w64 (n:=1048576-0) zq0,Bk zq0,Aj,Hj _ zq5 zq3,Ab,show cat [([],()),(b,())]=b by simp[cat],Ayo _ _ zq7 zq0,Ab]
   simp only
   rw[Ai zq0,Ar,B0 _ zq2,Ab,w64 zq0]
   simp
  have e2:Ao2 ((Iq F0 b).1,(Iq F0 b).2,(b.length:Int),())=some (Ac7 (Iq F0 (b++Ac6 b.length)).1,()):=by
   unfold Ao2 An3
   simp only[Ad,Ag,Ae,Aa]
   rw[Blk _ (by dsimp only;rw[hc.2.1];decide),Ab]
   have ok:A2c ((Iq F0 b).1,(Iq F0 b).2,(b.length:Int),())=true:=by
    unfold A2c
    simp only[hc.2.2 Bve,hc.2.1,Bool.and_eq_true]
    refine⟨by decide,Bt.2 zq0,?_⟩
    rw[hc.1];simp
   rw[ok]
   simp only[Bool.not_true,Aj]
   rw[B2p _ h,Ab,Hj _ zq5 zq3,Ab,show cat [((Iq F0 b).2,()),(Ac6 b.length,())]=(Iq F0 b).2++Ac6 b.length by simp[cat],Ayo _ _ (by rw[hc.2.1];decide) zq1,Ab,<-Bxo _ _ _ _ (Nat.le_refl _)]
   simp only
   rw[Bo4 _ (by rw[(Arj _ F0 _ (Nat.le_refl _) zq7).2.1];decide)]
   rfl
  rw[Bk zq0,Aj,show A5p=some (F0,[],0,())from rfl,Ab,e1,Ab,e2,Ab,if_pos h]
 .rw[Ai zq0,Ay,if_neg h]
theorem B1k (b:List YB) (h:b.length<=1048576):(sha b).length=32:=by
 unfold sha
 rw[if_pos h,Awp,(Arj _ F0 _ (Nat.le_refl _) zq7).2.1];rfl
theorem Ark (b:List YB):(sha b).length<=32:=by rcases Bp2 b with h|h<;>omega
def A2d (k:List YB):List YB:=k++List.replicate (64-k.length) ((0:Int),())
def F9 (k:List YB):List YB:=A2d (if k.length>64 then sha k else k)
theorem A3o (k:List YB) (h:k.length<=64):Ax Hm (k,())=some (A2d k,()):=by
 have hr:=C6 (B:=Hm) (64-k.length) (fun i=>(k++List.replicate i ((0:Int),()),())) (A2d k,())
  (fun i hi=>by
   unfold Hm
   simp only[Ad,Ag,Aa]
   rw[Ai zq1,Ay,Ai zq1,Ar,List.append_assoc,<-List.replicate_succ'])
  (by
   unfold Hm
   simp only[Ad,Ag,Aa]
   rw[Bk zq1,Aj];rfl)
 simpa using hr
theorem Bsc (k:List YB) (h:k.length<=64):(A2d k).length=64:=by unfold A2d;simp;omega
theorem Aks (k:List YB):(F9 k).length=64:=by
 unfold F9
 refine Bsc _ ?_
 split
 .have:=Ark k;omega
 .omega
theorem Bsd (k:List YB) (h:k.length<=1048576):Akd (k,())=some (F9 k,()):=by
 unfold Akd Ajb F9
 simp only[Ad,Ae,Aa]
 rw[Bk zq0,Aj,B0 _ zq2,Ab]
 by_cases h1:k.length>64
 .have:=Ark k
  rw[Ai zq0,Ay,Bsb _ zq0,Ab,A3o _ zq0,if_pos h1];rfl
 .rw[Bk zq0,Aj,A3o _ zq0,if_neg h1];rfl
theorem Bse (k:List YB) (h:k.length<=1048576):Aj4 (k,())=some (F9 k,()):=by
 unfold Aj4 Aik F9
 simp only[Ad,Ae,Aa,Ag,List.nil_append,List.length_nil,Nat.zero_add]
 rw[Bk zq0,Aj,Ai zq0,Ar,show Ul=Hm from rfl]
 by_cases h1:k.length>64
 .have:=Ark k
  rw[Ai zq0,Ay,Bsa,Ab,A3o _ zq0,if_pos h1];rfl
 .rw[Bk zq0,Aj,A3o _ zq0,if_neg h1];rfl
def A70 (x c:Int):YB:=(IntKind.u8.wrap ((BitVec.ofInt (IntKind.u8.bits) x ^^^ BitVec.ofInt (IntKind.u8.bits) c).toNat:Nat),())
def Fp (k:List YB) (c:Int):List YB:=k.map fun x=>A70 x.1 c
theorem Awi (k:List YB) (c:Int):(Fp k c).length=k.length:=by simp[Fp]
theorem Aph (k:List YB) (x:YB) (c:Int):Fp (k++[x]) c=Fp k c++[A70 x.1 c]:=by simp[Fp]
theorem Bll (k:List YB) (c:Int) (h:k.length<=1048576):Ahc (k,()) (c,())=some (Fp k c,()):=by
 have hr:=C6 (B:=Oy) k.length (fun i=>(c,Fp (k.take i) c,k,(k.length:Int),(i:Int),())) (Fp k c,())
  (fun i hi=>by
   have hx:=List.getElem?_eq_getElem hi
   unfold Oy
   simp only[Ad,Ae,Aa,Ag,Bw hi,Ay,Bc hx,Ab]
   rw[Ai zq9,Ar,w64 zq0,<-E9 hx,Aph]
   rfl)
  (by unfold Oy;simp only[Ad,Aa,B7,Aj,List.take_length])
 unfold Ahc Aue
 simp only[Ae,Aa]
 rw[show Ax Oy (c,[],k,(k.length:Int),(0:Int),())=_ from hr]
 rfl
theorem Bzv (m k:List YB) (h:k.length=64):Ax Um (m,k,[],[],(0:Int),())=some (m,Fp k 54,Fp k 92,()):=by
 have hr:=C6 (B:=Um) 64 (fun i=>(m,k,Fp (k.take i) 54,Fp (k.take i) 92,(i:Int),())) (m,Fp k 54,Fp k 92,())
  (fun i hi=>by
   have hx:=List.getElem?_eq_getElem (show i<k.length by omega)
   unfold Um
   simp only[Ad,Ae,Aa,Ag]
   rw[Ai zq0,Ay,Bc hx]
   simp only[Ab]
   rw[Ai zq9,Ar,Ai zq9,Ar,w64 zq0,<-E9 hx,Aph,Aph]
   rfl)
  (by unfold Um;simp only[Ad,Aa,Ae,Ag];rw[Bk zq0,Aj,<-h,List.take_length])
 exact hr
def Hw (k m:List YB):List YB:=if k.length>1048576 then []else if m.length>1048512 then []else sha (Fp (F9 k) 92++sha (Fp (F9 k) 54++m))
theorem Arl (k m:List YB):Xk (k,()) (m,())=some (Hw k m,()):=by
 have hb:=Aks k
 unfold Xk A69 Hw
 simp only[Ad,Ae,Aa]
 by_cases h1:k.length>1048576
 .rw[Ai zq0,Ay,if_pos h1]
 rw[Bk zq0,Aj,if_neg h1]
 by_cases h2:m.length>1048512
 .rw[Ai zq0,Ay,if_pos h2]
 have hs:=Ark (Fp (F9 k) 54++m)
 rw[Bk zq0,Aj,if_neg h2,Bsd _ zq0,Ab,Bll _ _ zq0,Ab,Bll _ _ zq0,Ab,Hj _ (by simp[cat,Awi];omega) zq3,Ab,
  show cat [(Fp (F9 k) 54,()),(m,())]=Fp (F9 k) 54++m by simp[cat],Bsb _ zq9,Ab,Hj _ (by simp[cat,Awi];omega) zq3,Ab,
  show cat [(Fp (F9 k) 92,()),(sha (Fp (F9 k) 54++m),())]=Fp (F9 k) 92++sha (Fp (F9 k) 54++m) by simp[cat],Bsb _ zq9,Ab]
theorem Arm (k m:List YB):Xi (k,()) (m,())=some (Hw k m,()):=by
 have hb:=Aks k
 unfold Xi A6p Hw
 simp only[Ad,Ae,Aa,Ag]
 by_cases h1:k.length>1048576
 .rw[Ai zq0,Ay,if_pos h1]
 rw[Bk zq0,Aj,if_neg h1]
 by_cases h2:m.length>1048512
 .rw[Ai zq0,Ay,if_pos h2]
 have hs:=Ark (Fp (F9 k) 54++m)
 rw[Bk zq0,Aj,if_neg h2,Bse _ zq0,Ab,Bzv _ _ hb,Ab]
 simp only
 rw[Ai zq9,Ar,Bsa,Ab,Ai zq9,Ar,Bsa,Ab]
theorem Awq (k m:List YB):(Hw k m).length=32\/(Hw k m).length=0:=by
 unfold Hw
 split
 .exact .inr rfl
 split
 .exact .inr rfl
 exact Bp2 _
theorem Sd (k m:List YB) (h1:k.length<=1048576) (h2:m.length<=1048512):(Hw k m).length=32:=by
 have hb:=Aks k
 have hs:=Ark (Fp (F9 k) 54++m)
 unfold Hw
 rw[if_neg zq0,if_neg zq0]
 exact B1k _ zq9
def Abs (k m:List YB):List YB:=(Hw k m).take 16
theorem Bi9 (k m:List YB):Ahr (k,()) (m,())=some (Abs k m,()):=by
 unfold Ahr Bdl Abs
 simp only[Ad,Ae,Aa,Ag,Arl,Ab]
 rcases Awq k m with h|h
 .rw[Ce (by simp[h]),Ai zq0,Ar]
  simp only[show(16:Int).toNat=16 from rfl,show(0:Int).toNat=0 from rfl,List.drop_zero]
  rw[B0 _ zq1,Ab]
 .rw[Dj (by simp[h]),List.eq_nil_of_length_eq_zero h];rfl
theorem Bja (k m:List YB):Ahq (k,()) (m,())=some (Abs k m,()):=by
 unfold Ahq Bc3 Abs
 simp only[Ad,Ae,Aa,Ag,Arm,Ab,List.nil_append,List.length_nil,Nat.zero_add]
 rcases Awq k m with h|h
 .rw[Bk zq0,Aj,Ai zq0,Ar]
  simp only[show(16:Int).toNat=16 from rfl,show(0:Int).toNat=0 from rfl,List.drop_zero]
  rw[Ai zq1,Ar]
 .rw[Ai zq0,Ay,List.eq_nil_of_length_eq_zero h];rfl
theorem Bzw (k m:List YB):(Abs k m).length<=16:=by unfold Abs;simp;omega
def Zn (k n:List YB) (i:Int):List YB:=if inR i 0 6=true/\n.length<=100 then Hw k ((((115:Int),())::n)++Fj i 4 4)else []
theorem Bvf (k n:List YB) (i:Int):Ao4 (k,()) (n,()) (i,())=some (Zn k n i,()):=by
 unfold Ao4 Aoa Zn
 simp only[Ad,Ae,Aa,Cf,Ab]
 cases hi:inR i 0 6 with
 |false=>simp[br]
 |true=>
  simp only[Bool.not_true,Aj]
  by_cases hn:n.length<=100
  .rw[Bk zq0,Aj,Hj _ zq5 zq3,Ab,show cat [([((115:Int),())],()),(n,())]=((115:Int),())::n by simp[cat],Pm _ _ zq1,Ab,Arl,Ab,if_pos ⟨trivial,hn⟩]
  .rw[Ai zq0,Ay,if_neg (fun h=>hn h.2)]
theorem Bvg (k n:List YB) (i:Int):Ao0 (k,()) (n,()) (i,())=some (Zn k n i,()):=by
 unfold Ao0 Anp Zn
 simp only[Ad,Ae,Aa,Ag,C4,Ab]
 cases hi:inR i 0 6 with
 |false=>simp[br]
 |true=>
  simp only[Bool.not_true,Aj]
  by_cases hn:n.length<=100
  .rw[Bk zq0,Aj,Ai zq1,Ar,Lh _ _ zq1,Ab,Arm,Ab,if_pos ⟨trivial,hn⟩];rfl
  .rw[Ai zq0,Ay,if_neg (fun h=>hn h.2)]
theorem Awr (k n:List YB) (i:Int) (h0:0<=i) (h1:i<=6) (hn:n.length<=100) (hk:k.length<=1048576):(Zn k n i).length=32:=by
 unfold Zn
 rw[if_pos ⟨Bt.2 ⟨h0,h1⟩,hn⟩]
 exact Sd _ _ hk zq4
def blocks (k n:List YB) (i:Nat):List YB:=(List.range i).flatMap fun(j:Nat)=>Zn k n (j:Int)
theorem Api (k n:List YB) (i:Nat):blocks k n (i+1)=blocks k n i++Zn k n (i:Int):=by unfold blocks;rw[List.range_succ,List.flatMap_append];simp
theorem Abt (k n:List YB) (i:Nat) (h:i<=7) (hn:n.length<=100) (hk:k.length<=1048576):(blocks k n i).length=32*i:=by
 induction i with
 |zero=>rfl
 |succ i ih=>rw[Api,List.length_append,ih zq0,Awr _ _ _ zq0 zq0 hn hk];omega
def Jk (k n:List YB) (m:Nat):List YB:=(blocks k n ((m+31)/32)).take m
theorem Bbl (k n:List YB) (m:Nat) (hm:m<=200) (hn:n.length<=100) (hk:k.length<=1048576):(Jk k n m).length=m:=by
 unfold Jk
 rw[List.length_take,Abt _ _ _ zq0 hn hk];omega
theorem Bxp (k n:List YB) (m:Nat) (hm:m<=200) (hn:n.length<=100) (hk:k.length<=1048576):Av1 (k,()) (n,()) ((m:Int),())=some (Jk k n m,()):=by
 have hbl:=Abt k n ((m+31)/32) zq0 hn hk
 have hr:=C6 (B:=O0) ((m+31)/32) (fun i=>(k,n,(m:Int),blocks k n i,(i:Int),())) ((m:Int),blocks k n ((m+31)/32),())
  (fun i hi=>by
   have hl:=Abt k n i zq0 hn hk
   have hl2:=Awr k n (i:Int) zq0 zq0 hn hk
   unfold O0
   simp only[Ad,Ae,Aa,Ag]
   rw[Ai zq0,Ay,Bvf,Ab,Ai zq2,Ar,w64 zq0,Api]
   rfl)
  (by
   unfold O0
   simp only[Ad,Ae,Aa,Ag]
   rw[Bk zq0,Aj])
 unfold Av1 Aum
 simp only[Ad,Ae,Aa,Ag,Cf,Ab]
 rw[Ce zq8,Bk zq0,Aj,Bk zq0,Aj,show Ax O0 (k,n,(m:Int),[],(0:Int),())=_ from hr,Ab]
 simp only[Int.toNat_natCast,show(0:Int).toNat=0 from rfl,List.drop_zero]
 rw[Ai zq0,Ar,Ai zq0,Ar,B0 _ zq1,Ab]
 rfl
theorem Bxq (k n:List YB) (m:Nat) (hm:m<=200) (hn:n.length<=100) (hk:k.length<=1048576):Avp (k,()) (n,()) ((m:Int),())=some (Jk k n m,()):=by
 have hbl:=Abt k n ((m+31)/32) zq0 hn hk
 have hr:=C6 (B:=Ol) ((m+31)/32) (fun i=>(k,n,(m:Int),blocks k n i,(i:Int),())) ((m:Int),blocks k n ((m+31)/32),())
  (fun i hi=>by
   have hl:=Abt k n i zq0 hn hk
   have hl2:=Awr k n (i:Int) zq0 zq0 hn hk
   unfold Ol
   simp only[Ad,Ae,Aa,Ag]
   rw[Ai zq0,Ay,Bvg,Ab,Ai zq2,Ar,w64 zq0,Api]
   rfl)
  (by
   unfold Ol
   simp only[Ad,Ae,Aa,Ag]
   rw[Bk zq0,Aj])
 unfold Avp Atc
 simp only[Ad,Ae,Aa,Ag,C4,Ab]
 rw[Ce zq8,Bk zq0,Aj,Bk zq0,Aj,show Ax Ol (k,n,(m:Int),[],(0:Int),())=_ from hr,Ab]
 simp only[Int.toNat_natCast,show(0:Int).toNat=0 from rfl,List.drop_zero,List.nil_append,List.length_nil,Nat.zero_add]
 rw[Ai zq0,Ar,Ai zq0,Ar,Ai zq1,Ar]
 rfl
def Akt (st p:List YB) (i:Nat):List YB:=(List.range i).map fun j=>A70 (st[j]?.getD (0,())).1 (p[j]?.getD (0,())).1
theorem Bgu (st p:List YB) (i:Nat):Akt st p (i+1)=Akt st p i++[A70 (st[i]?.getD (0,())).1 (p[i]?.getD (0,())).1]:=by unfold Akt;rw[List.range_succ,List.map_append];rfl
theorem Aws (st p:List YB) (i:Nat):(Akt st p i).length=i:=by simp[Akt]
def mix (k n p:List YB):List YB:=if p.length<=200/\n.length<=100/\k.length<=1048576 then Akt (Jk k n p.length) p p.length else []
theorem Bbm (k n p:List YB):(mix k n p).length<=p.length:=by
 unfold mix
 split
 .rw[Aws];exact Nat.le_refl _
 .simp
theorem Bzh (k n p:List YB):A3j (k,()) (n,()) (p,())=some (mix k n p,()):=by
 unfold A3j Bdn mix
 simp only[Ad,Ae,Aa]
 by_cases h1:p.length<=200
 .rw[Bk zq0,Aj]
  by_cases h2:n.length<=100
  .rw[Bk zq0,Aj]
   by_cases h3:k.length<=1048576
   .have hs:=Bbl k n p.length h1 h2 h3
    have hr:=C6 (B:=Za) p.length (fun i=>(p,Akt (Jk k n p.length) p i,Jk k n p.length,((Jk k n p.length).length:Int),(i:Int),())) (Akt (Jk k n p.length) p p.length,())
     (fun i hi=>by
      have hx:=List.getElem?_eq_getElem hi
      have hy:=List.getElem?_eq_getElem (show i<(Jk k n p.length).length by omega)
      unfold Za
      simp only[Ad,Ae,Aa,Ag]
      rw[Ai zq0,Ay,Bc hy,Ab,Bc hx,Ab,Ai (by simp[Aws];omega),Ar,w64 zq0,Bgu,hx,hy]
      rfl)
     (by
      unfold Za
      simp only[Ad,Ae,Aa,Ag]
      rw[Bk zq0,Aj])
    rw[Bk zq0,Aj,Bxp _ _ _ h1 h2 h3,Ab,if_pos ⟨h1,h2,h3⟩]
    simp only
    rw[show Ax Za (p,[],Jk k n p.length,((Jk k n p.length).length:Int),(0:Int),())=_ from hr]
    rfl
   .rw[Ai zq0,Ay,if_neg zq0]
  .rw[Ai zq0,Ay,if_neg zq0]
 .rw[Ai zq0,Ay,if_neg zq0]
theorem Bvh (a b:Int):A70 a b=A70 b a:=by unfold A70;rw[BitVec.xor_comm]
theorem Bzi (k n p:List YB):A3i (k,()) (n,()) (p,())=some (mix k n p,()):=by
 unfold A3i Bc6 mix
 simp only[Ad,Ae,Aa]
 by_cases h1:p.length<=200
 .rw[Bk zq0,Aj]
  by_cases h2:n.length<=100
  .rw[Bk zq0,Aj]
   by_cases h3:k.length<=1048576
   .have hs:=Bbl k n p.length h1 h2 h3
    have hr:=C6 (B:=X9) p.length (fun i=>(p,Akt (Jk k n p.length) p i,Jk k n p.length,(i:Int),())) (Akt (Jk k n p.length) p p.length,())
     (fun i hi=>by
      have hx:=List.getElem?_eq_getElem hi
      have hy:=List.getElem?_eq_getElem (show i<(Jk k n p.length).length by omega)
      unfold X9
      simp only[Ad,Ae,Aa,Ag]
      rw[Ai zq0,Ay,Bc hx,Ab,Bc hy,Ab,Ai (by simp[Aws];omega),Ar,w64 zq0,Bgu,hx,hy]
      rw[Bvh]
      rfl)
     (by
      unfold X9
      simp only[Ad,Ae,Aa,Ag]
      rw[Bk zq0,Aj])
    rw[Bk zq0,Aj,Bxq _ _ _ h1 h2 h3,Ab,if_pos ⟨h1,h2,h3⟩]
    simp only
    rw[show Ax X9 (p,[],Jk k n p.length,(0:Int),())=_ from hr]
    rfl
   .rw[Ai zq0,Ay,if_neg zq0]
  .rw[Ai zq0,Ay,if_neg zq0]
 .rw[Ai zq0,Ay,if_neg zq0]
def Hr (r:Int) (sn:List YB) (ep seq:Int):Bool:=inR r 0 1 && (((sn.length:Int)==12) && (inR ep 0 4294967295 && inR seq 0 281474976710655))
def Ek (r:Int) (sn:List YB) (ep seq:Int):List YB:=bif Hr r sn ep seq then(IntKind.u8.wrap r,())::(sn++(Fj ep 4 4++Fj seq 6 6))else []
theorem A71 (r:Int) (sn:List YB) (ep seq:Int):Aa8 (r,()) (sn,()) (ep,()) (seq,())=some (Ek r sn ep seq,()):=by
 unfold Aa8 Aul Ek Hr
 simp only[Ad,Ae,Aa,Ac4,Hp,Cf,Ab,Ahx]
 cases inR r 0 1 with
 |false=>rfl
 |true=>
  cases hs:((sn.length:Int)==12)with
  |false=>rfl
  |true=>
   have hs':sn.length=12:=by simp at hs;omega
   cases inR ep 0 4294967295 with
   |false=>rfl
   |true=>
    cases inR seq 0 281474976710655 with
    |false=>rfl
    |true=>
     simp only[Bool.not_true,Aj,Bool.and_true,cond_true]
     rw[Pm _ _ zq3,Ab,Bea _ _ zq3,Ab,Hj _ zq6 zq3,Ab]
     simp[cat]
theorem Awt (r:Int) (sn:List YB) (ep seq:Int):U0 (r,()) (sn,()) (ep,()) (seq,())=some (Ek r sn ep seq,()):=by
 unfold U0 Atb Ek Hr
 simp only[Ad,Ae,Aa,Ag,C4,Ab,bne]
 cases inR r 0 1 with
 |false=>rfl
 |true=>
  cases hs:((sn.length:Int)==12)with
  |false=>rfl
  |true=>
   have hs':sn.length=12:=by simp at hs;omega
   cases inR ep 0 4294967295 with
   |false=>rfl
   |true=>
    cases inR seq 0 281474976710655 with
    |false=>rfl
    |true=>
     simp only[Bool.not_true,Aj,Bool.and_true,cond_true]
     rw[Ai zq1,Ar,Lh _ _ zq1,Ab,Bpz _ _ zq4,Ab]
     simp
theorem Qa (r:Int) (sn:List YB) (ep seq:Int):(Ek r sn ep seq).length=(bif Hr r sn ep seq then 23 else 0):=by
 unfold Ek
 cases h:Hr r sn ep seq with
 |false=>rfl
 |true=>
  unfold Hr at h
  simp at h
  have:sn.length=12:=by omega
  simp[Fe,this]
def Dx (r:Int) (f:As):List YB:=bif inR r 0 1 && (Bm f && inR f.1 4 8)then((116:Int),())::(Ek r f.2.2.2.1 f.2.2.2.2.2.2.2.1 f.2.2.2.2.2.2.2.2.1++((IntKind.u8.wrap f.1,())::f.2.2.2.2.2.2.2.2.2.1))else []
theorem Vh (r:Int) (f:As) (h:A5 f<=536870912):Lx (r,()) f=some (Dx r f,()):=by
 have hh:=Qa r f.2.2.2.1 f.2.2.2.2.2.2.2.1 f.2.2.2.2.2.2.2.2.1
 simp only[A5]at h
 unfold Lx Ajj Dx
 simp only[Ad,Ae,Aa,Ac4,Xs,Jj,Ab,Ahx,A71]
 cases inR r 0 1 with
 |false=>rfl
 |true=>
  cases inR f.1 4 8 with
  |false=>cases Bm f<;>rfl
  |true=>
   cases Bm f with
   |false=>rfl
   |true=>
    have hle:(Ek r f.2.2.2.1 f.2.2.2.2.2.2.2.1 f.2.2.2.2.2.2.2.2.1).length<=23:=by rw[hh];cases Hr r f.2.2.2.1 f.2.2.2.2.2.2.2.1 f.2.2.2.2.2.2.2.2.1<;>simp
    simp only[Bool.not_true,Aj,Bool.and_true,cond_true]
    rw[Hj _ zq5 zq3,Ab]
    simp[cat]
theorem Abu (r:Int) (f:As) (h:A5 f<=536870912):Ls (r,()) f=some (Dx r f,()):=by
 have hh:=Qa r f.2.2.2.1 f.2.2.2.2.2.2.2.1 f.2.2.2.2.2.2.2.2.1
 simp only[A5]at h
 unfold Ls Air Dx
 simp only[Ad,Ae,Aa,Ag,C4,Xt,P0,Ab,Awt]
 cases inR r 0 1 with
 |false=>rfl
 |true=>
  cases Bm f with
  |false=>rfl
  |true=>
   cases inR f.1 4 8 with
   |false=>rfl
   |true=>
    have hle:(Ek r f.2.2.2.1 f.2.2.2.2.2.2.2.1 f.2.2.2.2.2.2.2.2.1).length<=23:=by rw[hh];cases Hr r f.2.2.2.1 f.2.2.2.2.2.2.2.1 f.2.2.2.2.2.2.2.2.1<;>simp
    simp only[Bool.not_true,Aj,Bool.and_true,cond_true]
    rw[Ai zq1,Ar,Ai zq1,Ar,Ai zq1,Ar]
    simp
def Tz:List YB:=List.replicate 16 ((0:Int),())
def Pn (k:List YB) (r:Int) (sn:List YB) (ep seq kind:Int) (p:List YB):Bool:=((k.length:Int)==32) && (Hr r sn ep seq && (inR kind 4 8 && Ji kind (p.length:Int)))
def Il:As:=(0,0,[],[],0,[],[],0,0,[],[],())
def Ha (k:List YB) (r:Int) (sn:List YB) (ep seq kind:Int) (p:List YB):As×(Bool×Unit):=
 bif Pn k r sn ep seq kind p then((kind,0,[],sn,0,[],[],ep,seq,mix k (Ek r sn ep seq) p,Abs k (Dx r (kind,0,[],sn,0,[],[],ep,seq,mix k (Ek r sn ep seq) p,Tz,())),()),(true,()))else(Il,(false,()))
theorem B1l (sn:List YB) (ep seq kind:Int) (p:List YB) (hk:inR kind 4 8=true):Bm (kind,0,[],sn,0,[],[],ep,seq,p,Tz,())=(((sn.length:Int)==12) && (inR ep 0 4294967295 && (inR seq 0 281474976710655 && Ji kind (p.length:Int)))):=by
 unfold Bm
 simp only[hk,cond_true]
 simp[Tz]
theorem Bvi (k:List YB) (r:Int) (sn:List YB) (ep seq kind:Int) (p:List YB) (h1:sn.length<=67108864) (h2:p.length<=67108864):Akg (k,()) (r,()) (sn,()) (ep,()) (seq,()) (kind,()) (p,())=some (Ha k r sn ep seq kind p):=by
 have hm:=Bbm k (Ek r sn ep seq) p
 unfold Akg A7k Ha Pn Hr
 simp only[Ad,Ae,Aa]
 rw[B0 _ zq2,Ab,B0 _ zq2,Ab]
 simp only[Ac4,Xs,Jj,Ab,Ahx,bne]
 cases ((k.length:Int)==32)with
 |false=>rfl
 |true=>
  cases inR r 0 1 with
  |false=>rfl
  |true=>
   cases hk:inR kind 4 8 with
   |false=>simp[br];rfl
   |true=>
    simp only[Bool.not_true,Aj,Bool.true_and]
    rw[show List.replicate (16:Int).toNat ((0:Int),())=Tz from rfl,B1l sn ep seq kind p hk,A71,Ab,Bzh,Ab]
    simp only
    rw[Vh _ _ (by simp only[A5];simp[Tz];omega),Ab,Bi9,Ab]
    cases ((sn.length:Int)==12)<;>cases inR ep 0 4294967295<;>cases inR seq 0 281474976710655<;>cases Ji kind (p.length:Int)<;>rfl
theorem Bsf (x:List YB) (r a b:Int) (n1 n2:List YB) (c:Int) (n3 n4:List YB) (d e:Int) (n5 n6:List YB) (kind f:Int) (n7 sn:List YB) (g:Int) (n8 n9:List YB) (ep seq:Int) (body:List YB):
  Ax Qk (x,r,(0:Int),a,b,n1,n2,c,n3,n4,d,e,n5,n6,kind,f,n7,sn,g,n8,n9,ep,seq,body,[],())=some (x,r,a,b,n1,n2,c,n3,n4,d,e,n5,n6,kind,f,n7,sn,g,n8,n9,ep,seq,body,Tz,()):=by
 exact C6 (B:=Qk) 16 (fun i=>(x,r,(i:Int),a,b,n1,n2,c,n3,n4,d,e,n5,n6,kind,f,n7,sn,g,n8,n9,ep,seq,body,List.replicate i ((0:Int),()),())) _
  (fun i hi=>by
   unfold Qk
   simp only[Ad,Ag,Aa]
   rw[Ai zq0,Ay,Ai zq1,Ar,w64 zq0,<-List.replicate_succ']
   rfl)
  (by unfold Qk;simp only[Ad,Ag,Aa];rfl)
theorem B1m (k:List YB) (r:Int) (sn:List YB) (ep seq kind:Int) (p:List YB) (h1:sn.length<=67108864) (h2:p.length<=67108864):Avq (k,()) (r,()) (sn,()) (ep,()) (seq,()) (kind,()) (p,())=some (Ha k r sn ep seq kind p):=by
 have hm:=Bbm k (Ek r sn ep seq) p
 have hh:=Qa r sn ep seq
 unfold Avq Atd Ha Pn
 simp only[Ad,Ae,Aa,Ag,List.nil_append,List.length_nil,Nat.zero_add]
 rw[Awt,Ab]
 simp only[Xt,A7z,Ab,bne]
 cases ((k.length:Int)==32)with
 |false=>rfl
 |true=>
  cases hd:Hr r sn ep seq with
  |false=>
   rw[hd]at hh
   have e:((Ek r sn ep seq).length:Int)==0:=by rw[hh];rfl
   rw[e];rfl
  |true=>
   rw[hd]at hh
   have e:(((Ek r sn ep seq).length:Int)==0)=false:=by rw[hh];rfl
   rw[e]
   cases hk:inR kind 4 8 with
   |false=>rfl
   |true=>
    cases hb:Ji kind (p.length:Int)with
    |false=>rfl
    |true=>
     simp only[Bool.not_true,Aj,Bool.true_and,Bool.and_true,cond_true]
     rw[Ai zq0,Ar,Bzi,Ab]
     simp only
     rw[Bsf,Ab]
     simp only
     rw[Abu _ _ (by simp only[A5];simp[Tz];omega),Ab,Bja,Ab]
theorem Bo5 (k:List YB) (r:Int) (sn:List YB) (ep seq kind:Int) (p:List YB):A5 (Ha k r sn ep seq kind p).1<=sn.length+p.length+32:=by
 have hm:=Bbm k (Ek r sn ep seq) p
 have ht:=Bzw k (Dx r (kind,0,[],sn,0,[],[],ep,seq,mix k (Ek r sn ep seq) p,Tz,()))
 unfold Ha
 cases Pn k r sn ep seq kind p<;>simp[A5,Il]
 omega
theorem Aek (r:Int) (f:As):(Dx r f).length<=A5 f+32:=by
 have hh:=Qa r f.2.2.2.1 f.2.2.2.2.2.2.2.1 f.2.2.2.2.2.2.2.2.1
 have hle:(Ek r f.2.2.2.1 f.2.2.2.2.2.2.2.1 f.2.2.2.2.2.2.2.2.1).length<=23:=by rw[hh];cases Hr r f.2.2.2.1 f.2.2.2.2.2.2.2.1 f.2.2.2.2.2.2.2.2.1<;>simp
 unfold Dx A5
 cases (inR r 0 1 && (Bm f && inR f.1 4 8))<;>simp
 omega
theorem A2e (d:Cz) (h:Bv d<=4294967296):Aef d=some d:=by
 simp only[Bv]at h
 unfold Aef Anw
 simp only[Ag,Aa,List.length_nil,Nat.zero_add,List.nil_append]
 rw[Ai h];rfl
theorem Blm (d:Cz) (h:Bv d<=4294967296):Avh d=some d:=A2e d h
theorem A72 (d:YEp) (h:Bi d<=4294967296):U2 d=some d:=by
 simp only[Bi]at h
 unfold U2 Atq
 simp (disch:=first|omega|(dsimp only;omega)|(simp only[Bv];omega)) only[Ae,Aa,B0,A2e,Ab]
theorem Awu (d:YEp) (h:Bi d<=4294967296):Uw d=some d:=by
 simp only[Bi]at h
 unfold Uw Ass
 simp (disch:=first|omega|(dsimp only;omega)|(simp only[Bv];omega)) only[Ae,Ag,Aa,Blm,Ab,List.length_nil,Nat.zero_add,List.nil_append,Ai,Ar]
theorem Bzx (d:YEp) (b:Bool×Unit) (h:Bi d<=4294967296):A1n d b=some d:=by
 have h':=h
 simp only[Bi]at h
 unfold A1n Ay8
 simp (disch:=first|omega|(dsimp only;omega)) only[Ad,Ae,Ag,Aa,Awu,Ab,List.length_nil,Nat.zero_add,List.nil_append,Ai,Ar]
 cases b.1<;>rfl
theorem Vi (d:Aq) (h:Aw d<=4294967296):H9 d=some d:=by
 simp only[Aw]at h
 unfold H9 Aix
 simp (disch:=first|omega|(dsimp only;omega)|(simp only[Bi];omega)) only[Ae,Ag,Aa,B0,A72,Ab]
theorem T0 (d:Aq) (h:Aw d<=4294967296):I5 d=some d:=by
 simp only[Aw]at h
 unfold I5 Am3
 simp (disch:=first|omega|(dsimp only;omega)|(simp only[Bi];omega)) only[Ae,Ag,Aa,Awu,Bzx,Ab,List.length_nil,Nat.zero_add,List.nil_append,Ai,Ar]
theorem N5 (d:Bd) (h:A8 d<=4294967296):Fc d=some d:=by
 obtain⟨a,b,l,⟨⟩⟩:=d
 simp only[A8]at h
 have hl:=C6 (B:=Jx) l.length (fun i=>(l,(l.length:Int),(i:Int),(0:Int),(0:Int),([]:List Av),a,b,l.take i,())) ((0:Int),(0:Int),([]:List Av),a,b,l,())
  (fun i hi=>by
   have hx:=List.getElem?_eq_getElem hi
   have h2:=Gj (f:=Bh) hx
   simp only[Bh]at h2
   unfold Jx
   simp only[Ad,Ae,Aa,Ag,Bw hi,Ay,Bc hx,Ab]
   rw[B0 _ zq2,Ab,Ai zq1,Ar,w64 zq0]
   exact congrArg (fun t=>some (Sum.inl (l,(l.length:Int),(i:Int)+1,(0:Int),(0:Int),([]:List Av),a,b,t,()))) (E9 hx))
  (by unfold Jx;simp only[Ad,Aa,B7,Aj,List.take_length])
 unfold Fc Afs
 simp only[Ae,Aa]
 rw[show Ax Jx (l,(l.length:Int),(0:Int),(0:Int),(0:Int),([]:List Av),a,b,([]:List Av),())=_ from hl]
 rfl
theorem Amb (d:Av) (h:Bh d<=4294967296):Rz d=some d:=by
 simp only[Bh]at h
 unfold Rz Am4
 simp only[Ag,Aa,List.length_nil,Nat.zero_add,List.nil_append]
 rw[Ai h];rfl
theorem Zo (d:Bd) (h:A8 d<=4294967296):D5 d=some d:=by
 obtain⟨a,b,l,⟨⟩⟩:=d
 simp only[A8]at h
 have hl:=C6 (B:=Mb) l.length (fun i=>((i:Int),a,b,l,(0:Int),(0:Int),([]:List Av),a,b,l.take i,())) ((0:Int),(0:Int),([]:List Av),a,b,l,())
  (fun i hi=>by
   have hx:=List.getElem?_eq_getElem hi
   have h2:=Gj (f:=Bh) hx
   unfold Mb
   simp only[Ad,Ae,Aa,Ag,Bw hi,Ay,Bc hx,Ab]
   rw[Amb _ zq0,Ab,Ai zq1,Ar,w64 zq0]
   exact congrArg (fun t=>some (Sum.inl ((i:Int)+1,a,b,l,(0:Int),(0:Int),([]:List Av),a,b,t,()))) (E9 hx))
  (by unfold Mb;simp only[Ad,Aa,B7,Aj,List.take_length])
 unfold D5 Am5
 simp only[Ae,Aa]
 rw[show Ax Mb ((0:Int),a,b,l,(0:Int),(0:Int),([]:List Av),a,b,([]:List Av),())=_ from hl]
 rfl
theorem Nm (d:Al) (h:Ap d<=4294967296):Lv d=some d:=by
 simp only[Ap]at h
 unfold Lv Aiy
 simp (disch:=first|omega|(dsimp only;omega)|(simp only[Aw];omega)|(simp only[A8];omega)) only[Ae,Ag,Aa,B0,Vi,N5,Ab]
theorem Amc (d:Al) (h:Ap d<=4294967296):R0 d=some d:=by
 simp only[Ap]at h
 unfold R0 Am6
 simp (disch:=first|omega|(dsimp only;omega)|(simp only[Aw];omega)|(simp only[A8];omega)) only[Ae,Ag,Aa,T0,Zo,Ab,List.length_nil,Nat.zero_add,List.nil_append,Ai,Ar]
theorem Amd (d:B8) (h:Bj d<=4294967296):R9 d=some d:=by
 obtain⟨c,l,⟨⟩⟩:=d
 simp only[Bj]at h
 have hl:=C6 (B:=Mg) l.length (fun i=>(l,(l.length:Int),(i:Int),(0:Int),([]:List Al),c,l.take i,())) ((0:Int),([]:List Al),c,l,())
  (fun i hi=>by
   have hx:=List.getElem?_eq_getElem hi
   have h2:=Gj (f:=Ap) hx
   unfold Mg
   simp only[Ad,Ae,Aa,Ag,Bw hi,Ay,Bc hx,Ab]
   rw[Nm _ zq0,Ab,Ai zq1,Ar,w64 zq0]
   exact congrArg (fun t=>some (Sum.inl (l,(l.length:Int),(i:Int)+1,(0:Int),([]:List Al),c,t,()))) (E9 hx))
  (by unfold Mg;simp only[Ad,Aa,B7,Aj,List.take_length])
 unfold R9 Any
 simp only[Ae,Aa]
 rw[show Ax Mg (l,(l.length:Int),(0:Int),(0:Int),([]:List Al),c,([]:List Al),())=_ from hl]
 rfl
theorem Bgv (d:B8) (h:Bj d<=4294967296):Aec d=some d:=by
 obtain⟨c,l,⟨⟩⟩:=d
 simp only[Bj]at h
 have hl:=C6 (B:=Mc) l.length (fun i=>((i:Int),c,l,(0:Int),([]:List Al),c,l.take i,())) ((0:Int),([]:List Al),c,l,())
  (fun i hi=>by
   have hx:=List.getElem?_eq_getElem hi
   have h2:=Gj (f:=Ap) hx
   unfold Mc
   simp only[Ad,Ae,Aa,Ag,Bw hi,Ay,Bc hx,Ab]
   rw[Amc _ zq0,Ab,Ai zq1,Ar,w64 zq0]
   exact congrArg (fun t=>some (Sum.inl ((i:Int)+1,c,l,(0:Int),([]:List Al),c,t,()))) (E9 hx))
  (by unfold Mc;simp only[Ad,Aa,B7,Aj,List.take_length])
 unfold Aec Am8
 simp only[Ae,Aa]
 rw[show Ax Mc ((0:Int),c,l,(0:Int),([]:List Al),c,([]:List Al),())=_ from hl]
 rfl
def L6 (b:YBs):Bool:=inR (b.1.length:Int) 1 32
theorem A3p (b:YBs):Ze b=some (L6 b,()):=by
 unfold Ze A0g
 simp only[Ae,Aa,Cf,Ab];rfl
theorem Arn (b:YBs):Zc b=some (L6 b,()):=by
 unfold Zc Azk
 simp only[Ae,Aa,C4,Ab];rfl
theorem A3q (b:YBs):Al0 b=some ((b.1.length:Int)==32,()):=rfl
theorem Beb (b:YBs):Alx b=some ((b.1.length:Int)==32,()):=rfl
def Ga (d:C7):Bool:=inR (d.1.length:Int) 1 32 && inR d.2.1 0 10000
theorem Bln (d:C7):Ag9 d=some (Ga d,()):=by
 unfold Ag9 Atu
 simp only[Ad,Ae,Aa,Cf,Ab,Tv];rfl
theorem Blo (d:C7):Ag4 d=some (Ga d,()):=by
 unfold Ag4 Asv
 simp only[Ad,Ae,Aa,C4,Ab,Tv];rfl
def Em (s:A0):Bool:=
 inR (s.1.length:Int) 1 9 && (((s.2.1.length:Int)==32) && (Ga (s.2.2.1,s.2.2.2.1,()) && (I8 (s.2.2.2.2.1,s.2.2.2.2.2.1,()) && (Ch s.2.2.2.2.2.2.1 &&
  (Dz (fun _ x=> !L6 x) s.1 && Dz (fun _ (x:Al)=>decide (x.1>(s.1.length:Int))) s.2.2.2.2.2.1)))))
theorem Bsg (s:A0) (h:A7 s<=4294967296):Akb s=some (Em s,()):=by
 obtain⟨ps,jar,sd,n,cap,ss,cr,⟨⟩⟩:=s
 simp only[A7]at h
 have hl1:=Fk (B:=La) ps (fun i=>(ps,(ps.length:Int),(i:Int),ps,jar,sd,n,cap,ss,cr,())) (fun _ x=> !L6 x) (false,()) (ps,jar,sd,n,cap,ss,cr,())
  (fun i x hi hx=>by
   unfold La
   simp (disch:=omega) only[Ad,Ae,Aa,Bw hi,Ay,Bc hx,Ab,w64,A3p]
   rfl)
  (by unfold La;simp only[Ad,Aa,B7,Aj])
 have hl2:=Fk (B:=Jy) ss (fun i=>(ss,(ss.length:Int),(i:Int),ps,jar,sd,n,cap,ss,cr,())) (fun _ x=>decide (x.1>(ps.length:Int))) (false,()) ()
  (fun i x hi hx=>by
   unfold Jy
   simp (disch:=omega) only[Ad,Ae,Aa,Bw hi,Ay,Bc hx,Ab,w64]
   rfl)
  (by unfold Jy;simp only[Ad,Aa,B7,Aj])
 unfold Akb Aal Em
 simp only[Ad,Ae,Aa,Az,Cf,Ab,A3q,Bln]
 rw[Arg _ (by simp only[Bj];omega),Wk _ zq0,show((0:Int))=((0:Nat):Int)from rfl,hl1]
 simp only[Ab]
 cases inR (ps.length:Int) 1 9 with
 |false=>rfl
 |true=>
  cases ((jar.length:Int)==32)with
  |false=>rfl
  |true=>
   cases Ga (sd,n,())with
   |false=>rfl
   |true=>
    cases I8 (cap,ss,())with
    |false=>rfl
    |true=>
     cases Ch cr with
     |false=>rfl
     |true=>
      cases Dz (fun _ x=> !L6 x) ps with
      |false=>rfl
      |true=>
       simp only[Bool.not_true,Aj,cond_true,sm]
       rw[hl2]
       cases Dz (fun _ (x:Al)=>decide (x.1>(ps.length:Int))) ss<;>rfl
theorem Bsh (s:A0) (h:A7 s<=4294967296):Aj1 s=some (Em s,()):=by
 obtain⟨ps,jar,sd,n,cap,ss,cr,⟨⟩⟩:=s
 simp only[A7]at h
 have hl1:=Fk (B:=K5) ps (fun i=>((i:Int),ps,jar,sd,n,cap,ss,cr,())) (fun _ x=> !L6 x) (false,()) (ps,jar,sd,n,cap,ss,cr,())
  (fun i x hi hx=>by
   unfold K5
   simp (disch:=omega) only[Ad,Ae,Aa,Bw hi,Ay,Bc hx,Ab,w64,Arn]
   rfl)
  (by unfold K5;simp only[Ad,Aa,B7,Aj])
 have hl2:=Fk (B:=K6) ss (fun i=>((i:Int),ps,jar,sd,n,cap,ss,cr,())) (fun _ x=>decide (x.1>(ps.length:Int))) (false,()) ()
  (fun i x hi hx=>by
   unfold K6
   simp (disch:=omega) only[Ad,Ae,Aa,Bw hi,Ay,Bc hx,Ab,w64]
   rfl)
  (by unfold K6;simp only[Ad,Aa,B7,Aj])
 unfold Aj1 Z8 Em
 simp only[Ad,Ae,Aa,Az,C4,Ab,Beb,Blo]
 rw[Bpy _ (by simp only[Bj];omega),Wl _ zq0,show((0:Int))=((0:Nat):Int)from rfl,hl1]
 simp only[Ab]
 cases inR (ps.length:Int) 1 9 with
 |false=>rfl
 |true=>
  cases ((jar.length:Int)==32)with
  |false=>rfl
  |true=>
   cases Ga (sd,n,())with
   |false=>rfl
   |true=>
    cases I8 (cap,ss,())with
    |false=>rfl
    |true=>
     cases Ch cr with
     |false=>rfl
     |true=>
      cases Dz (fun _ x=> !L6 x) ps with
      |false=>rfl
      |true=>
       simp only[Bool.not_true,Aj,cond_true,sm]
       rw[hl2]
       cases Dz (fun _ (x:Al)=>decide (x.1>(ps.length:Int))) ss<;>rfl
theorem Blp {E:Type} {f:E->Nat}: ∀ {l:List E} {i:Nat} {x:E},Af f (l.set i x)<=Af f l+f x
 |[],_,_=>by simp[Af]
 |a::r,0,x=>by simp only[List.set_cons_zero,Af];omega
 |a::r,i+1,x=>by have:=Blp (f:=f) (l:=r) (i:=i) (x:=x);simp only[List.set_cons_succ,Af];omega
theorem Bsi (t:B8) (s:Al) (h:Bj t+Ap s<=1073741824): ∃r b,Wd t s=some (r,(b,()))/\Aoz t s=some (r,(b,()))/\Bj r<=Bj t+Ap s+1:=by
 unfold Wd Ad9 Aoz Ano
 simp only[Ad,Ae,Aa,Ag]
 have hl:t.2.1.length<=Bj t:=by simp only[Bj];omega
 rw[Amd t zq0,Bgv t zq0,Arg t zq0,Bpy t zq0,Nm s zq0,Amc s zq0,Xr s zq0,Awk s zq0,Qr _ _ zq0,Awl _ _ zq0,Blc _ zq0,Bu4 _ zq0]
 simp only[Ab]
 cases I8 t with
 |false=>exact⟨t,1,rfl,rfl,by omega⟩
 |true=>
  cases C8 s with
  |false=>exact⟨t,1,rfl,rfl,by omega⟩
  |true=>
   simp only[Bool.not_true,Aj]
   cases s.2.2.2.2.2.2.2.2.2.2.2.2.2.2.2.2.2.2.2.2.2.2.2.1 with
   |true=>exact⟨t,1,rfl,rfl,by omega⟩
   |false=>
    simp only[Aj]
    cases decide (Ed t.2.1 s.2.2.1≥0)with
    |true=>exact⟨t,3,rfl,rfl,by omega⟩
    |false=>
     simp only[Aj]
     cases Eh t==t.1 with
     |true=>exact⟨t,7,rfl,rfl,by omega⟩
     |false=>
      simp only[Aj]
      cases (t.2.1.length:Int)==12 with
      |true=>exact⟨t,7,rfl,rfl,by omega⟩
      |false=>
       simp only[Aj]
       rw[Ai zq1,Ar]
       refine⟨_,0,rfl,rfl,?_⟩
       simp only[Bj,Iz,Af,List.length_append,List.length_cons,List.length_nil]
       omega
def Qt (k l:List YB):List YB×Bool:=if l.length<=100/\k.length<=1048576 then(Hw k (l++[((1:Int),())]),true)else([],false)
theorem Bsj (k l:List YB):Av0 (k,()) (l,()) ((32:Int),())=some (((Qt k l).1,()),((Qt k l).2,())):=by
 unfold Av0 Auh Qt
 simp only[Ad,Ae,Aa,Ag,Cf,Ab]
 rw[Ce zq7]
 by_cases hl:l.length<=100
 .rw[Bk zq0,Aj]
  by_cases hk:k.length<=1048576
  .rw[Bk zq0,Aj,if_pos ⟨hl,hk⟩]
   have h32:(Hw k (l++[((1:Int),())])).length=32:=Sd _ _ hk zq1
   have e1:Oz (k,l,(32:Int),[],[],(1:Int),())=some (.inl (k,l,(32:Int),Hw k (l++[((1:Int),())]),Hw k (l++[((1:Int),())]),(2:Int),())):=by
    unfold Oz
    simp only[Ad,Ae,Aa,Ag]
    rw[Ai zq3,Ay,Hj _ zq5 zq3,Ab,show cat [([],()),(l,()),([(IntKind.u8.wrap 1,())],())]=l++[((1:Int),())] by simp[cat];rfl,Arl,Ab,Ai (by dsimp only[List.length_nil];omega),Ar,List.nil_append]
    rfl
   have e2:Oz (k,l,(32:Int),Hw k (l++[((1:Int),())]),Hw k (l++[((1:Int),())]),(2:Int),())=some (.inr ((32:Int),Hw k (l++[((1:Int),())]),())):=by
    unfold Oz
    simp only[Ad,Ae,Aa,Ag]
    rw[Bk zq0,Aj]
   rw[Dk,e1]
   simp only
   rw[Dk,e2]
   simp only[Ab]
   rw[Ai zq0,Ar,Ai zq0,Ar,show(32:Int).toNat=32 from rfl,show(0:Int).toNat=0 from rfl,List.drop_zero,List.take_of_length_le zq0,B0 _ zq2,Ab]
  .rw[Ai zq0,Ay,if_neg (fun h=>hk h.2)]
 .rw[Ai zq0,Ay,if_neg (fun h=>hl h.1)]
theorem Bsk (k l:List YB):Avn (k,()) (l,()) ((32:Int),())=some (((Qt k l).1,()),((Qt k l).2,())):=by
 unfold Avn As7 Qt
 simp only[Ad,Ae,Aa,Ag,C4,Ab,List.nil_append,List.length_nil,Nat.zero_add]
 rw[Ce zq7]
 by_cases hl:l.length<=100
 .rw[Bk zq0,Aj]
  by_cases hk:k.length<=1048576
  .rw[Bk zq0,Aj,if_pos ⟨hl,hk⟩]
   have h32:(Hw k (l++[((1:Int),())])).length=32:=Sd _ _ hk zq1
   have e1:Oj (k,l,(32:Int),[],[],(1:Int),())=some (.inl (k,l,(32:Int),Hw k (l++[((1:Int),())]),Hw k (l++[((1:Int),())]),(2:Int),())):=by
    unfold Oj
    simp only[Ad,Ae,Aa,Ag,List.nil_append,List.length_nil,Nat.zero_add]
    rw[Ai zq3,Ay,Ai zq0,Ar,Ai zq0,Ar,Ai zq1,Ar,show(IntKind.u8.wrap 1:Int)=1 from rfl,Arm,Ab,Ai zq2,Ar]
    rfl
   have e2:Oj (k,l,(32:Int),Hw k (l++[((1:Int),())]),Hw k (l++[((1:Int),())]),(2:Int),())=some (.inr ((32:Int),Hw k (l++[((1:Int),())]),())):=by
    unfold Oj
    simp only[Ad,Ae,Aa,Ag]
    rw[Bk zq0,Aj]
   rw[Dk,e1]
   simp only
   rw[Dk,e2]
   simp only[Ab]
   rw[Ai zq0,Ar,Ai zq0,Ar,show(32:Int).toNat=32 from rfl,show(0:Int).toNat=0 from rfl,List.drop_zero,List.take_of_length_le zq0,Ai zq0,Ar]
  .rw[Ai zq0,Ay,if_neg (fun h=>hk h.2)]
 .rw[Ai zq0,Ay,if_neg (fun h=>hl h.1)]
def Jl (k l:List YB):List YB:=(Qt k l).1
theorem Bsl (k l:List YB):(Jl k l).length=32\/(Jl k l).length=0:=by
 unfold Jl Qt
 split
 .exact Awq _ _
 .right;rfl
theorem A73 (k:List YB) (b:ByteArray) (h:b.size<=4294967296):Nh (k,()) (b,())=some (Jl k (L8 b),()):=by
 unfold Nh Aui
 simp only[Ae,Aa,Ag]
 rw[Ai h,Ar,Bsj,Ab];rfl
theorem A74 (k:List YB) (b:ByteArray) (h:b.size<=4294967296):Na (k,()) (b,())=some (Jl k (L8 b),()):=by
 unfold Na As8
 simp only[Ae,Aa,Ag]
 rw[Ai h,Ar,Bsk,Ab];rfl
def Aro:List YB:=L8 (Hg [114,101,107,101,121])
def Blq:List YB:=L8 (Hg [101,112,111,99,104])
theorem Bgw (k:List YB):Nh (k,()) (Hg [114,101,107,101,121],())=some (Jl k Aro,()):=A73 k _ zq7
theorem Bgx (k:List YB):Na (k,()) (Hg [114,101,107,101,121],())=some (Jl k Aro,()):=A74 k _ zq7
theorem Bvj (k:List YB):Nh (k,()) (Hg [101,112,111,99,104],())=some (Jl k Blq,()):=A73 k _ zq7
theorem Bvk (k:List YB):Na (k,()) (Hg [101,112,111,99,104],())=some (Jl k Blq,()):=A74 k _ zq7
def Arp (k:List YB):Nat->List YB
 |0=>k
 |n+1=>Jl (Arp k n) Aro
def Arq (k:List YB) (n:Int):List YB:=if 0<=n/\n<=64 then Arp k n.toNat else []
theorem Bzy (k:List YB) (n:Int) (h:k.length<=4294967296):A1y (k,()) (n,())=some (Arq k n,()):=by
 unfold A1y A0w Arq
 simp only[Ad,Ae,Aa,Cf,Ab]
 by_cases hn:0<=n/\n<=64
 .obtain⟨m,rfl⟩:=Int.eq_ofNat_of_zero_le hn.1
  have hr:=C6 (B:=Ry) m (fun i=>((m:Int),Arp k i,(i:Int),())) (Arp k m,())
   (fun i hi=>by
    unfold Ry
    simp only[Ad,Ae,Aa]
    rw[Ai zq0,Ay,Bgw,Ab,w64 zq0]
    rfl)
   (by
    unfold Ry
    simp only[Ad,Ae,Aa]
    rw[Bk zq0,Aj])
  rw[Ce zq8,B0 _ h,Ab,if_pos hn]
  rw[show Ax Ry ((m:Int),k,(0:Int),())=_ from hr,Ab]
  rfl
 .rw[if_neg hn,Dj zq8]
theorem Bzz (k:List YB) (n:Int) (h:k.length<=4294967296):A1s (k,()) (n,())=some (Arq k n,()):=by
 unfold A1s Azz Arq
 simp only[Ad,Ae,Aa,Ag,C4,Ab,List.nil_append,List.length_nil,Nat.zero_add]
 by_cases hn:0<=n/\n<=64
 .obtain⟨m,rfl⟩:=Int.eq_ofNat_of_zero_le hn.1
  have hr:=C6 (B:=Ru) m (fun i=>((m:Int),Arp k i,(i:Int),())) (Arp k m,())
   (fun i hi=>by
    unfold Ru
    simp only[Ad,Ae,Aa]
    rw[Ai zq0,Ay,Bgx,Ab,w64 zq0]
    rfl)
   (by
    unfold Ru
    simp only[Ad,Ae,Aa]
    rw[Bk zq0,Aj])
  rw[Ce zq8,Ai h,Ar,if_pos hn]
  rw[show Ax Ru ((m:Int),k,(0:Int),())=_ from hr,Ab]
  rfl
 .rw[if_neg hn,Dj zq8]
def Li (p a b:List YB):List YB:=if inR (p.length:Int) 1 32=true/\a.length=12/\b.length=12 then Hw (a++b) p else []
theorem Bvl (p a b:List YB):Ao3 (p,()) (a,()) (b,())=some (Li p a b,()):=by
 unfold Ao3 An7 Li Aeg Ad5
 simp only[Ad,Ae,Aa,A3p,Hp,Ab,L6]
 cases inR (p.length:Int) 1 32 with
 |false=>rw[if_neg zq3];rfl
 |true=>
  simp only[Bool.not_true,Aj]
  by_cases h1:a.length=12
  .rw[Ce (by simp[h1])]
   by_cases h2:b.length=12
   .rw[Ce (by simp[h2]),Hj _ zq5 zq3,Ab,show cat [(a,()),(b,())]=a++b by simp[cat],Arl,if_pos ⟨trivial,h1,h2⟩];rfl
   .rw[Dj zq1,if_neg (fun h=>h2 h.2.2)]
  .rw[Dj zq1,if_neg (fun h=>h1 h.2.1)]
theorem Bvm (p a b:List YB):Aoy (p,()) (a,()) (b,())=some (Li p a b,()):=by
 unfold Aoy Ann Li Aed Adt
 simp only[Ad,Ae,Aa,Ag,Arn,Ab,L6,List.nil_append,List.length_nil,Nat.zero_add]
 cases inR (p.length:Int) 1 32 with
 |false=>rw[if_neg zq3];rfl
 |true=>
  simp only[Bool.not_true,Aj]
  by_cases h1:a.length=12
  .rw[Ce (by simp[h1])]
   by_cases h2:b.length=12
   .rw[Ce (by simp[h2]),Ai zq0,Ar,Ai zq0,Ar,Arm,if_pos ⟨trivial,h1,h2⟩];rfl
   .rw[Dj zq1,if_neg (fun h=>h2 h.2.2)]
  .rw[Dj zq1,if_neg (fun h=>h1 h.2.1)]
def I0 (r:List YB):List YB:=if r.length=32 then Jl r Blq else []
theorem A2f (r:List YB):(I0 r).length=32\/(I0 r).length=0:=by
 unfold I0
 split
 .exact Bsl _ _
 .right;rfl
theorem Bsm (r:List YB):Ake (r,())=some (I0 r,()):=by
 unfold Ake Ajh I0
 simp only[Ad,Ae,Aa,Bvj,Ab]
 by_cases h:r.length=32
 .rw[if_pos h,Ce (by simp[h])]
 .rw[if_neg h,Dj zq1]
theorem Bsn (r:List YB):Aj5 (r,())=some (I0 r,()):=by
 unfold Aj5 Aio I0
 simp only[Ad,Ae,Aa,Bvk,Ab]
 by_cases h:r.length=32
 .rw[if_pos h,Ce (by simp[h])]
 .rw[if_neg h,Dj zq1]
def N6 (p a b:List YB) (n:Int):List YB:=if (I0 (Li p a b)).length=0 then []else Arq (I0 (Li p a b)) n
theorem Bso (p a b:List YB) (n:YI):Aa7 (p,()) (a,()) (b,()) n=some (N6 p a b n.1,()):=by
 have hf:=A2f (Li p a b)
 unfold Aa7 Aji N6
 simp only[Ad,Ae,Aa,Bvl,Bsm,Ab]
 by_cases h:(I0 (Li p a b)).length=0
 .rw[if_pos h,Dj (by simp[h])]
 .rw[if_neg h,Ce (by simp;intro e;rw[e]at h;exact h rfl),Bzy _ _ zq0];rfl
theorem Bbn (p a b:List YB) (n:YI):Aa4 (p,()) (a,()) (b,()) n=some (N6 p a b n.1,()):=by
 have hf:=A2f (Li p a b)
 unfold Aa4 Aip N6
 simp only[Ad,Ae,Aa,Bvm,Bsn,Ab]
 by_cases h:(I0 (Li p a b)).length=0
 .rw[if_pos h,Dj (by simp[h]),List.eq_nil_of_length_eq_zero h]
 .rw[if_neg h,Ce (by simp;intro e;rw[e]at h;exact h rfl),Bzz _ _ zq0];rfl
theorem A75:Avo=Ahd:=by
 have hr:=C6 (B:=Ok) 32 (fun i=>((i:Int),(0:Int),([]:List YI),(-1:Int),List.replicate i ((0:Int),()),())) ((0:Int),([]:List YI),(-1:Int),List.replicate 32 ((0:Int),()),())
  (fun i hi=>by
   unfold Ok
   simp only[Ad,Ag,Aa]
   rw[Ai zq0,Ay,Ai zq1,Ar,w64 zq0,List.replicate_succ']
   rfl)
  (by
   unfold Ok
   simp only[Ad,Ag,Aa]
   rw[Bk zq0,Aj])
 unfold Avo As9 Ahd Auj
 simp only[Ae,Aa]
 rw[show Ax Ok ((0:Int),(0:Int),([]:List YI),(-1:Int),([]:List YI),())=_ from hr,Ab]
 rfl
def Bbo:Cz:=((-1:Int),List.replicate 32 ((0:Int),()),())
theorem A76:Ahd=some Bbo:=rfl
theorem A77 (n:YI) (k:YBs): ∃r,Pv n k=some r/\Nb n k=some r/\Bi r<=64:=by
 unfold Pv Alu Nb Aeu
 simp only[Ad,Ae,Aa,Ag,Cf,C4,Ab,A75,A76,List.nil_append,List.length_nil,Nat.zero_add]
 cases inR n.1 0 4294967295 with
 |false=>exact⟨_,rfl,rfl,by decide⟩
 |true=>
  simp only[Bool.not_true,Aj]
  by_cases h:k.1.length=32
  .have q:((k.1.length:Int) != 32)=false:=by simp[h]
   rw[q,B0 k zq0,Ai zq0]
   simp only[Aj,Ab,Ar]
   refine⟨_,rfl,rfl,?_⟩
   simp only[Bi,Bbo,List.length_replicate];omega
  .have q:((k.1.length:Int) != 32)=true:=by simp;omega
   rw[q]
   exact⟨_,rfl,rfl,by decide⟩
theorem Bsp (n:YI) (a k:YBs): ∃r,Wc n a k=some r/\R8 n a k=some r/\Aw r<=76:=by
 unfold Wc Ad8 R8 Adv
 simp only[Ad,Ae,Aa,Ag,Ac4,C4,Hp,Ab,Ahx,List.nil_append,List.length_nil,Nat.zero_add]
 cases inR n.1 0 1 with
 |false=>exact⟨_,rfl,rfl,by decide⟩
 |true=>
  simp only[Bool.not_true,Aj]
  by_cases h1:a.1.length=12
  .have q1:((a.1.length:Int)==12)=true:=by simp[h1]
   have q2:((a.1.length:Int) != 12)=false:=by simp[h1]
   rw[q1,q2]
   simp only[Bool.not_true,Aj]
   by_cases h:k.1.length=32
   .have q:((k.1.length:Int) != 32)=false:=by simp[h]
    obtain⟨r,e1,e2,e3⟩:=A77 ((0:Int),()) k
    rw[q,B0 a zq0,Ai zq0,e1,e2]
    simp only[Aj,Ab,Ar]
    refine⟨_,rfl,rfl,?_⟩
    simp only[Bi]at e3
    simp only[Aw,List.length_nil];omega
   .have q:((k.1.length:Int) != 32)=true:=by simp;omega
    rw[q]
    exact⟨_,rfl,rfl,by decide⟩
  .have q1:((a.1.length:Int)==12)=false:=by simp;omega
   have q2:((a.1.length:Int) != 12)=true:=by simp;omega
   rw[q1,q2]
   exact⟨_,rfl,rfl,by decide⟩
theorem Bbp (p:YBs) (n:YI) (a:A6) (f:As) (h:A5 f<=1073741824): ∃r,Aeh p n a f=some r/\Aee p n a f=some r/\Ap r<=A5 f+76:=by
 have hn:f.2.2.1.length+f.2.2.2.1.length<=A5 f:=by simp only[A5];omega
 obtain⟨c,e1,e2,e3⟩:=Bsp ((1:Int),()) (f.2.2.2.1,()) (N6 p.1 f.2.2.1 f.2.2.2.1 0,())
 unfold Aeh An8 Aee Adw A1x Ajg Aj6 Aiq
 simp only[Ad,Ae,Aa,Ag,Cf,C4,Ab,A3p,Arn,Ic,Lz,List.nil_append,List.length_nil,Nat.zero_add]
 rw[Jj f,P0 f,Ab,Ab]
 have z:Ap ((0:Int),([]:List (Int×Unit)),([]:List (Int×Unit)),(0:Int),([]:List (Int×Unit)),(0:Int),([]:List (Int×Unit)),(0:Int),(0:Int),([]:List (Int×Unit)),(0:Int),([]:List (Int×Unit)),(0:Int),(0:Int),([]:List (Int×Unit)),false,(0:Int),([]:List (Int×Unit)),(0:Int),(0:Int),([]:List (Int×Int×(List (Int×Unit))×Int×Unit)),(0:Int),(0:Int),false,())<=A5 f+76:=by
  simp only[Ap,Af,List.length_nil];omega
 cases L6 p with
 |false=>exact⟨_,rfl,rfl,z⟩
 |true=>
  cases inR n.1 0 1000000 with
  |false=>exact⟨_,rfl,rfl,z⟩
  |true=>
   cases Ck a with
   |false=>exact⟨_,rfl,rfl,z⟩
   |true=>
    cases hk:(f.1 != (3:Int))with
    |true=>cases Bm f<;>exact⟨_,rfl,rfl,z⟩
    |false=>
     cases Bm f with
     |false=>exact⟨_,rfl,rfl,z⟩
     |true=>
      simp only[Bool.not_true,Aj]
      rw[B0 _ zq2,B0 _ zq2,Ai zq0,Ar,Ai zq0,Ar]
      simp only[Ab]
      rw[show Aa7 p (f.2.2.1,()) (f.2.2.2.1,()) ((0:Int),())=some (N6 p.1 f.2.2.1 f.2.2.2.1 0,())from Bso _ _ _ _,show Aa4 p (f.2.2.1,()) (f.2.2.2.1,()) ((0:Int),())=some (N6 p.1 f.2.2.1 f.2.2.2.1 0,())from Bbn _ _ _ _]
      simp only[Ab]
      rw[e1,e2]
      simp only[Ab]
      refine⟨_,rfl,rfl,?_⟩
      simp only[Aw]at e3
      simp only[Ap,Af,List.length_nil];omega
def Ame:List YB:=[((114:Int),()),((111:Int),()),((108:Int),()),((108:Int),())]
def T4 (s:List YB) (n:Int):List YB:=if inR (s.length:Int) 1 32=true/\inR n 0 10000=true then(Hw s (Ame++Fj n 4 4)).take 12 else []
theorem Bsq (s:List YB) (n:Int):(T4 s n).length<=12:=by
 unfold T4
 split
 .simp;omega
 .simp
theorem Bxr (s:List YB) (n:Int):Avw (s,()) (n,())=some (T4 s n,()):=by
 unfold Avw Auf T4
 simp only[Ad,Ae,Aa,Ag,Cf,Ab]
 cases h1:inR (s.length:Int) 1 32 with
 |false=>rw[if_neg zq3];rfl
 |true=>
  cases inR n 0 10000 with
  |false=>rw[if_neg zq3];rfl
  |true=>
   have:=Bt.1 h1
   have h32:(Hw s (Ame++Fj n 4 4)).length=32:=Sd _ _ zq0 (by simp[Fe,Ame])
   simp only[Bool.not_true,Aj]
   rw[Pm _ _ zq3,Ab,Arl,Ab,if_pos ⟨trivial,trivial⟩,show([((114:Int),()),((111:Int),()),((108:Int),()),((108:Int),())]:List YB)=Ame from rfl]
   rw[Ai zq2,Ar,show(12:Int).toNat=12 from rfl,show(0:Int).toNat=0 from rfl,List.drop_zero,B0 _ zq1]
   rfl
theorem Bxs (s:List YB) (n:Int):Avj (s,()) (n,())=some (T4 s n,()):=by
 unfold Avj As5 T4
 simp only[Ad,Ae,Aa,Ag,C4,Ab,List.length_nil,Nat.zero_add,List.nil_append]
 cases h1:inR (s.length:Int) 1 32 with
 |false=>rw[if_neg zq3];rfl
 |true=>
  cases inR n 0 10000 with
  |false=>rw[if_neg zq3];rfl
  |true=>
   have:=Bt.1 h1
   have h32:(Hw s (Ame++Fj n 4 4)).length=32:=Sd _ _ zq0 (by simp[Fe,Ame])
   simp only[Bool.not_true,Aj]
   rw[Lh _ _ zq3,Ab,Arm,Ab,if_pos ⟨trivial,trivial⟩,show([((114:Int),()),((111:Int),()),((108:Int),()),((108:Int),())]:List YB)=Ame from rfl]
   rw[Ai zq2,Ar,show(12:Int).toNat=12 from rfl,show(0:Int).toNat=0 from rfl,List.drop_zero,Ai zq1,Ar]
theorem Bgy (d:C7) (h:d.1.length<=4294967296):Aeb d=some d:=by
 unfold Aeb Am2
 simp only[Ag,Aa,List.length_nil,Nat.zero_add,List.nil_append]
 rw[Ai h];rfl
def Gb (d:C7):C7×List YB:=if Ga d=true/\d.2.1≠10000 then((d.1,d.2.1+1,()),T4 d.1 d.2.1)else(d,[])
theorem Bxt (d:C7):(Gb d).1.1=d.1:=by unfold Gb;split<;>rfl
theorem Blr (d:C7):(Gb d).2.length<=12:=by
 unfold Gb
 split
 .exact Bsq _ _
 .simp
theorem A2g (d:C7) (h:d.1.length<=4294967296):Avx d=some ((Gb d).1,((Gb d).2,())):=by
 unfold Avx A7b Gb
 simp only[Ad,Ae,Aa,Bln,Bxr]
 rw[B0 _ h]
 simp only[Ab]
 cases hd:Ga d with
 |false=>rw[if_neg zq3];rfl
 |true=>
  simp only[Bool.not_true,Aj]
  by_cases h1:d.2.1=10000
  .rw[Dj (by simp[h1]),if_neg (fun h=>h.2 h1)]
  .have:=Bt.1 (show inR d.2.1 0 10000=true by unfold Ga at hd;simp only[Bool.and_eq_true]at hd;exact hd.2)
   rw[Ce (by simp[h1]),if_pos ⟨trivial,h1⟩,w64 zq0]
theorem Bvn (d:C7) (h:d.1.length<=4294967296):Avk d=some ((Gb d).1,((Gb d).2,())):=by
 unfold Avk A6q Gb
 simp only[Ad,Ae,Aa,Blo,Bxs]
 rw[Bgy _ h]
 simp only[Ab]
 cases hd:Ga d with
 |false=>rw[if_neg zq3];rfl
 |true=>
  simp only[Bool.not_true,Aj]
  by_cases h1:d.2.1=10000
  .rw[Dj (by simp[h1]),if_neg (fun h=>h.2 h1)]
  .have:=Bt.1 (show inR d.2.1 0 10000=true by unfold Ga at hd;simp only[Bool.and_eq_true]at hd;exact hd.2)
   rw[Ce (by simp[h1]),if_pos ⟨trivial,h1⟩,w64 zq0]
theorem Bsr (l:List YBs) (h:l.length+Af Cy l<=4294967296):Aj9 (l,())=some (l,()):=by
 have hl:=C6 (B:=K9) l.length (fun i=>(l.take i,l,(l.length:Int),(i:Int),())) (l,())
  (fun i hi=>by
   have hx:=List.getElem?_eq_getElem hi
   have h2:=Gj (f:=Cy) hx
   simp only[Cy]at h2
   unfold K9
   simp only[Ad,Ae,Aa,Ag,Bw hi,Ay,Bc hx,Ab]
   rw[B0 _ zq0,Ab,Ai zq1,Ar,w64 zq0]
   exact congrArg (fun t=>some (Sum.inl (t,l,(l.length:Int),(i:Int)+1,()))) (E9 hx))
  (by unfold K9;simp only[Ad,Aa,B7,Aj,List.take_length])
 unfold Aj9 Aiw
 simp only[Ae,Aa]
 rw[show Ax K9 ([],l,(l.length:Int),(0:Int),())=_ from hl]
 rfl
theorem Bvo (k:List YB) (r:Int) (sn:List YB) (ep seq kind:Int) (p:List YB):(Ha k r sn ep seq kind p).2.1=Pn k r sn ep seq kind p:=by
 unfold Ha
 cases Pn k r sn ep seq kind p<;>rfl
theorem Bxu (r:Int) (sn:List YB) (ep seq:Int):(((Ek r sn ep seq).length:Int)==0)= !Hr r sn ep seq:=by
 rw[Qa]
 cases Hr r sn ep seq<;>rfl
def A2h (e:YEp):YEp:=(e.1,e.2.1,e.2.2.1+1,e.2.2.2.1,e.2.2.2.2.1,())
theorem Bz0 {e:YEp} (h:Hi e=true) (hs:e.2.2.1≠281474976710656):Hi (A2h e)=true:=by
 unfold Hi at h ⊢
 simp only[Bool.and_eq_true,Bt,A2h]at h ⊢
 exact⟨h.1,h.2.1,⟨by omega,by omega⟩,h.2.2.2⟩
def EpS (e:YEp) (role:Int) (sn:List YB) (k:Int) (p:List YB) (e':YEp) (f:As) (c:Int):Prop:=
 Bi e'=Bi e/\A5 f<=sn.length+p.length+32/\(c≠0->e'=e)/\(c=0->Hi e=true/\Hi e'=true/\e'.1=e.1/\e'.2.1=e.2.1/\f=(Ha e.2.1 role sn e.1 e.2.2.1 k p).1/\Pn e.2.1 role sn e.1 e.2.2.1 k p=true)
theorem Bvp (e:YEp) (role:Int) (sn:List YB) (k:Int) (p:List YB) (h:Bi e+sn.length+p.length<=67108864):
  ∃(e':YEp) (f:As) (c:Int),Av2 e (role,()) (sn,()) (k,()) (p,())=some (e',f,(c,()))/\Avr e (role,()) (sn,()) (k,()) (p,())=some (e',f,(c,()))/\EpS e role sn k p e' f c:=by
 have hn:=Bo5 e.2.1 role sn e.1 e.2.2.1 k p
 have he:Bi e=e.2.1.length+e.2.2.2.2.1.length:=rfl
 have none: ∀ {c:Int},c≠0-> ∃(e':YEp) (f:As) (c':Int),some (e,Il,(c,()))=some (e',f,(c',()))/\some (e,Il,(c,()))=some (e',f,(c',()))/\EpS e role sn k p e' f c':=fun {c} hc=>
  ⟨e,Il,c,rfl,rfl,rfl,by simp[A5,Il],fun _=>rfl,fun h=>(hc h).elim⟩
 unfold Av2 Aun Avr Atf
 simp only[Ad,Ae,Aa]
 rw[A72 e zq0,Awu e zq0,Bbe e zq0,Bla e]
 simp only[Ab]
 cases ho:Hi e with
 |false=>exact none (c:=1) zq7
 |true=>
  have hk:((e.2.1.length:Int)==32)=true:=by unfold Hi at ho;simp only[Bool.and_eq_true]at ho;exact ho.2.1
  have hseq:inR e.2.2.1 0 281474976710656=true:=by unfold Hi at ho;simp only[Bool.and_eq_true]at ho;exact ho.2.2.1
  rw[Bt]at hseq
  simp only[Bool.not_true,Aj]
  rw[Bvi _ _ _ _ _ _ _ zq0 zq0,Ab,Awt,Ab,Xt,Ab,A7z,Ab]
  simp only[Bvo,Bxu]
  unfold Pn
  rw[hk]
  simp only[Bool.true_and]
  cases hd:Hr role sn e.1 0 with
  |false=>exact none (c:=1) zq7
  |true=>
   cases hkd:inR k 4 8 with
   |false=>exact none (c:=1) zq7
   |true=>
    cases hb:Ji k (p.length:Int)with
    |false=>exact none (c:=1) zq7
    |true=>
     simp only[Bool.and_self,Bool.not_true,Aj]
     have fin:e.2.2.1≠281474976710656-> ∃(e':YEp) (f:As) (c':Int),some (A2h e,(Ha e.2.1 role sn e.1 e.2.2.1 k p).1,((0:Int),()))=some (e',f,(c',()))/\some (A2h e,(Ha e.2.1 role sn e.1 e.2.2.1 k p).1,((0:Int),()))=some (e',f,(c',()))/\EpS e role sn k p e' f c':=fun hs=>
      ⟨A2h e,_,0,rfl,rfl,rfl,hn,fun h=>(h rfl).elim,fun _=>⟨ho,Bz0 ho hs,rfl,rfl,rfl,by
       unfold Pn
       rw[hk,hkd,hb]
       unfold Hr at hd ⊢
       simp only[Bool.and_eq_true,Bt,Bool.and_true]at hd ⊢
       exact⟨trivial,hd.1,hd.2.1,hd.2.2.1,by omega,by omega⟩⟩⟩
     rw[Bvi _ _ _ _ _ _ _ zq0 zq0,B1m _ _ _ _ _ _ _ zq0 zq0]
     simp only[Ab]
     have go:br (e.2.2.1==(281474976710656:Int)) (some (e,Il,((5:Int),()))) (some ((e.1,e.2.1,(IntKind.i64.wrap (e.2.2.1+(1:Int))),e.2.2.2.1,e.2.2.2.2.1,()),(Ha e.2.1 role sn e.1 e.2.2.1 k p).1,((0:Int),())))=if e.2.2.1=281474976710656 then some (e,Il,((5:Int),()))else some (A2h e,(Ha e.2.1 role sn e.1 e.2.2.1 k p).1,((0:Int),())):=by
      by_cases h5:e.2.2.1=281474976710656
      .rw[if_pos h5,Dj (by simp[h5])]
      .rw[if_neg h5,Ce (by simp[h5]),w64 zq0];rfl
     have fin2: ∃(e':YEp) (f:As) (c':Int),(if e.2.2.1=281474976710656 then some (e,Il,((5:Int),()))else some (A2h e,(Ha e.2.1 role sn e.1 e.2.2.1 k p).1,((0:Int),())))=some (e',f,(c',()))/\(if e.2.2.1=281474976710656 then some (e,Il,((5:Int),()))else some (A2h e,(Ha e.2.1 role sn e.1 e.2.2.1 k p).1,((0:Int),())))=some (e',f,(c',()))/\EpS e role sn k p e' f c':=by
      by_cases h5:e.2.2.1=281474976710656
      .rw[if_pos h5];exact none (c:=5) zq7
      .rw[if_neg h5];exact fin h5
     cases hk4:(k==(4:Int))with
     |false=>
      simp only[Aj]
      exact go▸fin2
     |true=>
      simp only[Ay]
      by_cases h4:e.2.2.1≥281474976709656
      .rw[Ai h4,Ay];exact none (c:=4) zq7
      .rw[Bk h4,Aj]
       exact go▸fin2
def Gk (c:Aq) (e:YEp):Aq:=(c.1,c.2.1,e.1,e.2.1,e.2.2.1,e.2.2.2.1,e.2.2.2.2.1,c.2.2.2.2.2.2.2.1,c.2.2.2.2.2.2.2.2.1,c.2.2.2.2.2.2.2.2.2.1,c.2.2.2.2.2.2.2.2.2.2.1,c.2.2.2.2.2.2.2.2.2.2.2.1,c.2.2.2.2.2.2.2.2.2.2.2.2.1,c.2.2.2.2.2.2.2.2.2.2.2.2.2.1,c.2.2.2.2.2.2.2.2.2.2.2.2.2.2.1,())
theorem Bbq {c:Aq} {e:YEp} (h:Co c=true) (he:Hi e=true) (h1:e.1=c.2.2.1):Co (Gk c e)=true:=by
 have e1:Oc (Gk c e)=e:=rfl
 have e2:Qq (Gk c e)=Qq c:=by
  unfold Qq
  have:(Gk c e).2.2.1=c.2.2.1:=h1
  simp only[this]
  rfl
 unfold Co at h ⊢
 rw[e1,e2]
 simp only[Bool.not_not,Bool.and_eq_true]at h ⊢
 refine⟨h.1,h.2.1,he,h.2.2.2.1,?_⟩
 have:=h.2.2.2.2
 simp only[Gk,Nl,h1]at this ⊢
 exact this
theorem Bls (c:Aq) (e:YEp) (h:Bi e=Bi (Oc c)):Aw (Gk c e)=Aw c:=by
 simp only[Bi,Oc]at h
 simp only[Aw,Gk]
 omega
def ChS (c:Aq) (k:Int) (p:List YB) (c':Aq) (f:As) (z:Int):Prop:=
 ∃e':YEp,c'=Gk c e'/\Aw c'=Aw c/\A5 f<=Aw c+p.length+32/\(z≠0->c'=c)/\
  (z=0->Co c=true/\Co c'=true/\e'.1=c.2.2.1/\e'.2.1=c.2.2.2.1/\f=(Ha c.2.2.2.1 c.1 c.2.1 c.2.2.1 c.2.2.2.2.1 k p).1/\Pn c.2.2.2.1 c.1 c.2.1 c.2.2.1 c.2.2.2.2.1 k p=true)
theorem Gf (c:Aq) (k:Int) (p:List YB) (h:Aw c+p.length<=67108864):
  ∃(c':Aq) (f:As) (z:Int),Cj c (k,()) (p,())=some (c',f,(z,()))/\Di c (k,()) (p,())=some (c',f,(z,()))/\ChS c k p c' f z:=by
 have hc:=h
 simp only[Aw]at hc
 unfold Cj Ajl Di Ait
 simp only[Ad,Ae,Aa]
 rw[Vi c zq0,T0 c zq0,Xq c Bd6 Bd7,Tw c]
 simp only[Ab]
 cases ho:Co c with
 |false=>exact⟨c,Il,1,rfl,rfl,Oc c,rfl,rfl,by simp[A5,Il],fun _=>rfl,fun h=>by cases h⟩
 |true=>
  simp only[Bool.not_true,Aj]
  obtain⟨e',f,z,h1,h2,h3,h4,h5,h6⟩:=Bvp (Oc c) c.1 c.2.1 k p (by simp only[Bi,Oc];omega)
  have hn:=Bls c e' h3
  rw[h1,h2,Ab,Ab]
  have hf:A5 f<=Aw c+p.length+32:=by simp only[Aw];omega
  by_cases hz:z=0
  .subst hz
   obtain⟨q1,q2,q3,q4,q5,q6⟩:=h6 rfl
   exact⟨Gk c e',f,0,rfl,rfl,e',rfl,hn,hf,fun h=>(h rfl).elim,fun _=>⟨ho,Bbq ho q2 q3,q3,q4,q5,q6⟩⟩
  .have he:=h5 hz
   subst he
   refine⟨c,f,z,rfl,?_,Oc c,rfl,rfl,hf,fun _=>rfl,fun h=>(hz h).elim⟩
   rw[Ce (by simpa using hz)]
def Abv (n:Int):List YB:=bif inR n 0 4294967295 then Fj n 4 4 else []
theorem Bvq (n:Int):(Abv n).length<=4:=by unfold Abv;cases inR n 0 4294967295<;>simp[Fe]
theorem A5s (n:Int):W6 (n,())=some (Abv n,()):=by
 unfold W6 Af3 Abv
 simp only[Ad,Ae,Aa,Cf,Ab]
 cases inR n 0 4294967295 with
 |false=>rfl
 |true=>simp only[Bool.not_true,Aj];rw[Pm _ _ zq3,Ab];rfl
theorem A5t (n:Int):W2 (n,())=some (Abv n,()):=by
 unfold W2 Afq Abv
 simp only[Ad,Ae,Aa,C4,Ab]
 cases inR n 0 4294967295 with
 |false=>rfl
 |true=>simp only[Bool.not_true,Aj];rw[Lh _ _ zq3,Ab];rfl
theorem Bbr (c:Aq) (h:Aw c<=67000000):
  ∃(c':Aq) (f:As) (z:Int),Ahs c=some (c',f,(z,()))/\Aq3 c=some (c',f,(z,()))/\Aw c'=Aw c/\A5 f<=Aw c+36/\(z=0->ChS c 8 (Abv c.2.2.1) c' f 0):=by
 have hc:=h
 have hl:=Bvq c.2.2.1
 simp only[Aw]at hc
 unfold Ahs Bdp Aq3 Bc8
 simp only[Ad,Ae,Aa]
 rw[Vi c zq0,T0 c zq0,Xq c Bd6 Bd7,Tw c]
 simp only[Ab]
 cases ho:Co c with
 |false=>exact⟨c,Il,6,rfl,rfl,rfl,by simp[A5,Il],fun h=>by cases h⟩
 |true=>
  simp only[Bool.not_true,Aj]
  cases hx:(c.1 != (1:Int))with
  |true=>exact⟨c,Il,6,rfl,rfl,rfl,by simp[A5,Il],fun h=>by cases h⟩
  |false=>
   simp only[Aj]
   rw[A5s,A5t,Ab,Ab]
   obtain⟨c',f,z,h1,h2,h3⟩:=Gf c 8 (Abv c.2.2.1) zq0
   rw[h1,h2,Ab]
   have h3':=h3
   obtain⟨e',q1,q2,q3,q4,q5⟩:=h3
   exact⟨c',f,z,rfl,rfl,q2,by omega,fun hz=>hz▸h3'⟩
def L7 (k b:List YB):Am:=((15:Int),(0:Int),(0:Int),[],[],(0:Int),(0:Int),b,k,(0:Int),(0:Int),(0:Int),())
theorem Bbs (k b:List YB) (h1:k.length<=4294967296) (h2:b.length<=4294967296):Avz (k,()) (b,())=some (L7 k b):=by
 unfold Avz A7f L7
 simp only[Ae,Aa]
 rw[B0 _ h1,Ab,B0 _ h2,Ab]
theorem Bvr (k b:List YB) (h1:k.length<=4294967296) (h2:b.length<=4294967296):Avm (k,()) (b,())=some (L7 k b):=by
 unfold Avm A6u L7
 simp only[Ag,Aa,List.length_nil,Nat.zero_add,List.nil_append]
 rw[Ai h1,Ar,Ai h2,Ar]
def Gl (c:Aq) (f:As):Am:=L7 c.2.2.2.1 (Dx c.1 f)
theorem Ie (c:Aq) (f:As) (h1:c.2.2.2.1.length<=4294967296) (h2:A5 f<=536870912):Ia c f=some (Gl c f):=by
 have ht:=Aek c.1 f
 unfold Ia Auo Gl
 simp only[Ae,Aa]
 rw[Vh _ _ h2,Ab,Bbs _ _ h1 zq0,Ab]
theorem Jm (c:Aq) (f:As) (h1:c.2.2.2.1.length<=4294967296) (h2:A5 f<=536870912):G4 c f=some (Gl c f):=by
 have ht:=Aek c.1 f
 unfold G4 Anr Gl
 simp only[Ae,Aa]
 rw[Abu _ _ h2,Ab,Bvr _ _ h1 zq0,Ab]
theorem Bss (c:Aq) (f:As):Db (Gl c f)<=Aw c+A5 f+32:=by
 have ht:=Aek c.1 f
 simp only[Db,Gl,L7,Aw,List.length_nil]
 omega
theorem En (c:Aq):c.2.2.2.1.length<=Aw c:=by simp only[Aw];omega
theorem Ael (s:Al):Aw (Cq s)<=Ap s:=by simp only[Aw,Cq,Ap];omega
def Abw (s:Al) (c:Aq):Al:=(s.1,s.2.1,s.2.2.1,c.1,c.2.1,c.2.2.1,c.2.2.2.1,c.2.2.2.2.1,c.2.2.2.2.2.1,c.2.2.2.2.2.2.1,c.2.2.2.2.2.2.2.1,c.2.2.2.2.2.2.2.2.1,c.2.2.2.2.2.2.2.2.2.1,c.2.2.2.2.2.2.2.2.2.2.1,c.2.2.2.2.2.2.2.2.2.2.2.1,c.2.2.2.2.2.2.2.2.2.2.2.2.1,c.2.2.2.2.2.2.2.2.2.2.2.2.2.1,c.2.2.2.2.2.2.2.2.2.2.2.2.2.2.1,s.2.2.2.2.2.2.2.2.2.2.2.2.2.2.2.2.2.2)
theorem Bo6 {s:Al} {c:Aq} (h:Aw c<=Aw (Cq s)):Ap (Abw s c)<=Ap s:=by
 simp only[Aw,Cq]at h
 simp only[Ap,Abw];omega
theorem Bvs {s:Al} {c:Aq} (h:C8 s=true) (hd:Cw s=false) (hc:Co c=true) (h1:c.1=(Cq s).1) (h2:c.2.1=(Cq s).2.1):C8 (Abw s c)=true:=by
 have e1:Cw (Abw s c)=Cw s:=rfl
 have e2:Cq (Abw s c)=c:=rfl
 have e3:Bp (Abw s c)=Bp s:=rfl
 unfold C8 at h ⊢
 rw[e1,e2,e3]
 rw[hd]at h ⊢
 simp only[cond_false,Bool.and_eq_true]at h ⊢
 refine⟨h.1,h.2.1,h.2.2.1,h.2.2.2.1,hc,?_,?_,h.2.2.2.2.2.2.2⟩
 .have:=h.2.2.2.2.2.1
  simp only[Abw,h1,Cq];exact this
 .have:=h.2.2.2.2.2.2.1
  simp only[Abw,h2,Cq];exact this
def SeR (s:Al) (m:Nat) (r:Al) (os:List Au) (ns:List Am):Prop:=
 Ap r<=Ap s/\os.length+Af Dv os<=Ap s+m+99/\ns.length+Af Db ns<=4*(Ap s+m+99)/\(C8 s=true->Cw s=false->C8 r=true/\r.2.2.1=s.2.2.1/\Cw r=false)
theorem SeR.none {s:Al} {m:Nat}:SeR s m s [] []:=⟨Nat.le_refl _,by simp[Af],by simp[Af],fun h hd=>⟨h,rfl,hd⟩⟩
theorem Bbt (s:Al) (h:Ap s<=8388608):
  ∃r os ns,Ky s=some (r,(os,()),(ns,()))/\V9 s=some (r,(os,()),(ns,()))/\SeR s 0 r os ns:=by
 have hch:=Ael s
 unfold Ky Aea V9 Ant
 simp only[Ad,Ae,Aa,Ag]
 rw[Nm s zq0,Amc s zq0,Xr s zq0,Awk s zq0]
 simp only[Ab]
 have nope: ∃r os ns,some (s,(([]:List Au),()),(([]:List Am),()))=some (r,(os,()),(ns,()))/\some (s,(([]:List Au),()),(([]:List Am),()))=some (r,(os,()),(ns,()))/\SeR s 0 r os ns:=
  ⟨s,[],[],rfl,rfl,.none⟩
 cases ho:C8 s with
 |false=>exact nope
 |true=>
  simp only[Bool.not_true,Aj]
  by_cases hd0:s.2.2.2.2.2.2.2.2.2.2.2.2.2.2.2.2.2.2.2.2.2.2.2.1=true
  .rw[Dj hd0,Dj hd0];exact nope
  .have hd:s.2.2.2.2.2.2.2.2.2.2.2.2.2.2.2.2.2.2.2.2.2.2.2.1=false:=by simpa using hd0
   rw[Ce hd,Ce hd]
   cases (s.2.2.2.2.2.1 != (0:Int))with
   |true=>exact nope
   |false=>
    simp only[Aj]
    obtain⟨c',f,z,a1,a2,a3,a4,a5⟩:=Bbr (Cq s) zq0
    rw[a1,a2]
    simp only[Ab]
    have hk:=En c'
    have hm:=Bss c' f
    by_cases z0:z=0
    .have ez:(z != (0:Int))=false:=by simp[z0]
     simp only[ez,Aj]
     rw[Ie _ _ zq0 zq0,Jm _ _ zq0 zq0]
     simp only[Ab]
     obtain⟨e',q1,q2,q3,q4,q5⟩:=a5 z0
     obtain⟨r1,r2,r3⟩:=q5 rfl
     refine⟨Abw s c',_,_,rfl,rfl,Bo6 zq0,?_,?_,fun _ _=>⟨Bvs ho hd r2 (by rw[q1];rfl) (by rw[q1];rfl),rfl,hd⟩⟩
     .simp only[Af,Dv,List.length_cons,List.length_nil]
      simp only[A5]at a4;omega
     .simp only[Af,List.length_cons,List.length_nil];omega
    .have ez:(z != (0:Int))=true:=by simpa using z0
     simp only[ez,Ay]
     exact nope
theorem Agp (l:List Ak) (h:l.length<=4294967296):Nd (l,())=some (l,()):=by
 unfold Nd Aah
 simp only[Ag,Aa,List.length_nil,Nat.zero_add,List.nil_append]
 rw[Ai h];rfl
theorem Blt (s:A0) (h:A7 s<=4294967296):Acq s=some s:=by
 have h':=h
 simp only[A7]at h
 unfold Acq Acg
 simp (disch:=first|omega|(dsimp only;omega)|(simp only[Bj];omega)) only[Ae,Aa,Bsr,B0,Amd,Agp,Ab]
theorem Bvt (s:A0) (h:A7 s<=4294967296):Aov s=some s:=by
 obtain⟨l,j,sd,n,c,ss,cr,⟨⟩⟩:=s
 simp only[A7]at h
 have hl:=C6 (B:=Md) l.length (fun i=>((i:Int),l,j,sd,n,c,ss,cr,[],[],[],(0:Int),(0:Int),[],[],l.take i,j,sd,n,c,ss,cr,())) ([],[],[],(0:Int),(0:Int),[],[],l,j,sd,n,c,ss,cr,())
  (fun i hi=>by
   have hx:=List.getElem?_eq_getElem hi
   have h2:=Gj (f:=Cy) hx
   simp only[Cy]at h2
   unfold Md
   simp only[Ad,Ae,Aa,Ag,Bw hi,Ay,Bc hx,Ab,List.length_nil,Nat.zero_add,List.nil_append]
   rw[Ai zq0,Ar,Ai zq1,Ar,w64 zq0]
   exact congrArg (fun t=>some (Sum.inl ((i:Int)+1,l,j,sd,n,c,ss,cr,[],[],[],(0:Int),(0:Int),[],[],t,j,sd,n,c,ss,cr,()))) (E9 hx))
  (by unfold Md;simp only[Ad,Aa,B7,Aj,List.take_length])
 unfold Aov Am9
 simp only[Ae,Ag,Aa,List.length_nil,Nat.zero_add,List.nil_append]
 rw[Ai zq0,Ar,Bgy _ zq2,Bgv _ (by simp only[Bj];omega)]
 simp only[Ab]
 rw[Ai zq0,Ar]
 rw[show Ax Md ((0:Int),l,j,sd,n,c,ss,cr,[],[],[],(0:Int),(0:Int),[],[],[],j,sd,n,c,ss,cr,())=_ from hl]
 rfl
def wfB (l:List YB):Prop:=∀(i:Nat) (x:YB),l[i]? =some x->0<=x.1/\x.1<=255
theorem Bvu {e:Nat} {l:List YB} (h:wfD (.sl e [.int .u8]) l):wfB l:=fun i x hx=>by
 simp only[wfD]at h
 have h1:=h.2 i x hx
 simp only[Hh,wfD]at h1
 have h2:=h1.1
 simp[Lit.wf,IntKind.min,IntKind.max,IntKind.signed,IntKind.bits]at h2
 omega
theorem Blu {a:YB} {l:List YB} (h:wfB (a::l)):(0<=a.1/\a.1<=255)/\wfB l:=⟨h 0 a rfl,fun i x hx=>h (i+1) x (by simpa using hx)⟩
theorem B1n {n m:Int} (hn:0<=n/\n<=255) (hm:0<=m/\m<=255) (h:UInt8.ofNat n.toNat=UInt8.ofNat m.toNat):n=m:=by
 have:=congrArg UInt8.toNat h
 simp only[UInt8.toNat_ofNat']at this
 omega
theorem Bp3: ∀ {a b:List YB},wfB a->wfB b->(a.map fun d=>UInt8.ofNat (Int.toNat d.1))=(b.map fun d=>UInt8.ofNat (Int.toNat d.1))->a=b
 |[],[],_,_,_=>rfl
 |x::a,y::b,ha,hb,h=>by
  simp only[List.map_cons,List.cons.injEq]at h
  obtain⟨x1,x2⟩:=Blu ha
  obtain⟨y1,y2⟩:=Blu hb
  have e:=B1n x1 y1 h.1
  have e2:=Bp3 x2 y2 h.2
  obtain⟨n,⟨⟩⟩:=x
  obtain⟨m,⟨⟩⟩:=y
  simp only at e
  rw[e,e2]
 |[],_::_,_,_,h=>by simp at h
 |_::_,[],_,_,h=>by simp at h
theorem Blv {a b:List YB} (ha:wfB a) (hb:wfB b) (h:Cm a b=true):a=b:=by
 unfold Cm at h
 have h1:H8 a=H8 b:=by simpa using h
 unfold H8 at h1
 simp only[ByteArray.mk.injEq]at h1
 exact Bp3 ha hb (by simpa using h1)
theorem Bvv {k:List YB} {r:Int} {sn:List YB} {ep seq kind:Int} {p:List YB} (h:Pn k r sn ep seq kind p=true):(Ha k r sn ep seq kind p).1.2.2.2.1=sn:=by
 unfold Ha
 rw[h];rfl
def Fh (l:List Al):Nat:=l.countP fun x=> !Cw x
theorem Ko (t:B8) (h:t.2.1.length<=4294967296):Eh t=(Fh t.2.1:Nat):=by
 obtain⟨cap,l,⟨⟩⟩:=t
 simp only at h
 have hl:=C6 (B:=Kk) l.length (fun i=>(((Fh (l.take i):Nat):Int),l,(l.length:Int),(i:Int),())) (((Fh l:Nat):Int),())
  (fun i hi=>by
   have hx:=List.getElem?_eq_getElem hi
   have hc:Fh (l.take (i+1))=Fh (l.take i)+(if Cw l[i]=true then 0 else 1):=by
    rw[<-E9 hx]
    unfold Fh
    rw[List.countP_append]
    cases hd:Cw l[i]<;>simp[List.countP_cons,hd]
   have hle:Fh (l.take i)<=i:=by
    have:=List.countP_le_length (p:=fun x=> !Cw x) (l:=l.take i)
    simp only[List.length_take]at this
    unfold Fh;omega
   unfold Kk
   simp (disch:=omega) only[Ad,Ae,Aa,Bw hi,Ay,Bc hx,Ab,w64]
   simp only[Awd]
   rw[hc]
   split
   .rename_i h1
    have h2:Cw l[i]=false:=by simpa using h1
    rw[if_neg (by rw[h2];decide)]
    simp
   .rename_i h1
    have h2:Cw l[i]=true:=by simpa using h1
    rw[if_pos h2]
    simp)
  (by unfold Kk;simp only[Ad,Aa,B7,Aj,List.take_length])
 unfold Eh Xj Atv
 simp only[Ae,Aa]
 rw[show Ax Kk ((0:Int),l,(l.length:Int),(0:Int),())=_ from hl]
 rfl
theorem Blw {E:Type} {q:E->Bool}: ∀ {l:List E} {i k:Nat} {x y:E},l[i]? =some x->q y=q x->Id (fun _ z=>q z) (l.set i y) k=Id (fun _ z=>q z) l k
 |[],i,k,x,y,h,_=>by simp at h
 |a::r,0,k,x,y,h,e=>by
  simp at h;subst h
  simp only[List.set_cons_zero,Id,e]
 |a::r,i+1,k,x,y,h,e=>by
  simp only[List.set_cons_succ,Id]
  rw[Blw (l:=r) (i:=i) (by simpa using h) e]
theorem Bbu {l:List Al} {i:Nat} {x y:Al} (hx:l[i]? =some x) (h:y.2.2.1=x.2.2.1) (s:List YB):Ed (l.set i y) s=Ed l s:=by
 unfold Ed L9
 rw[Blw (q:=fun x=>Cm x.2.2.1 s) hx (by simp only[h])]
theorem Bgz: ∀ {l:List Al} {i:Nat} {x y:Al},l[i]? =some x->(Cw y=true\/Cw y=Cw x)->Fh (l.set i y)<=Fh l
 |[],i,x,y,h,_=>by simp at h
 |a::r,0,x,y,h,e=>by
  simp at h;subst h
  simp only[List.set_cons_zero,Fh,List.countP_cons]
  rcases e with e|e
  .rw[e];simp
  .rw[e];exact Nat.le_refl _
 |a::r,i+1,x,y,h,e=>by
  have:=Bgz (l:=r) (i:=i) (x:=x) (y:=y) (by simpa using h) e
  simp only[List.set_cons_succ,Fh,List.countP_cons]at this ⊢
  omega
theorem Bg0 {t:B8} {i:Nat} {x y:Al} (hl:t.2.1.length<=4294967296) (ht:I8 t=true) (hx:t.2.1[i]? =some x) (ho:C8 y=true) (hs:y.2.2.1=x.2.2.1) (hd:Cw y=true\/Cw y=Cw x):I8 (t.1,t.2.1.set i y,())=true:=by
 unfold I8 at ht ⊢
 simp only[Bool.and_eq_true]at ht ⊢
 refine⟨ht.1,by simpa using ht.2.1,?_,?_⟩
 .have h1:=ht.2.2.1
  rw[Ko t hl]at h1
  rw[Ko _ (by simpa using hl)]
  have h2:=Bgz hx hd
  simp only[Bool.not_eq_true',decide_eq_false_iff_not]at h1 ⊢
  have h1': ¬((Fh t.2.1:Nat):Int)>t.1:=h1
  have h2':Fh (t.2.1.set i y)<=Fh t.2.1:=h2
  show ¬((Fh (t.2.1.set i y):Nat):Int)>t.1
  omega
 .have h1:=Hq.1 ht.2.2.2
  refine Hq.2 fun j z hz=>?_
  rw[List.getElem?_set]at hz
  unfold Lg
  by_cases hij:i=j
  .subst hij
   have hlt:i<t.2.1.length:=(List.getElem?_eq_some_iff.1 hx).1
   rw[if_pos rfl,if_pos hlt]at hz
   simp only[Option.some.injEq]at hz
   subst hz
   have h3:=h1 i x hx
   unfold Lg at h3
   rw[Bbu hx hs,hs,ho]
   simp only[Bool.not_eq_false',Bool.and_eq_true]at h3 ⊢
   exact⟨trivial,h3.2⟩
  .rw[if_neg hij]at hz
   have h3:=h1 j z hz
   unfold Lg at h3
   rw[Bbu hx hs]
   exact h3
theorem Bst (t:B8) (n:YI) (s x:Al) (h:Bj t+Ap s<=1073741824) (ht:I8 t=true) (h0:0<=n.1) (hx:t.2.1[n.1.toNat]? =some x) (ho:I8 (t.1,t.2.1.set n.1.toNat s,())=true):
  G5 t n s=some ((t.1,t.2.1.set n.1.toNat s,()),(true,())):=by
 have hl:t.2.1.length<=Bj t:=by simp only[Bj];omega
 have hlt:n.1.toNat<t.2.1.length:=(List.getElem?_eq_some_iff.1 hx).1
 have hn:Bj (t.1,t.2.1.set n.1.toNat s,())<=Bj t+Ap s:=by
  have:=Blp (f:=Ap) (l:=t.2.1) (i:=n.1.toNat) (x:=s)
  simp only[Bj,List.length_set];omega
 unfold G5 Aod
 simp only[Ad,Ae,Aa,Ag]
 rw[Amd t zq0,Arg t zq0,Nm s zq0]
 simp only[Ab,ht,Bool.not_true,Aj]
 rw[Bk zq0,Aj,Bk zq0,Aj]
 have hid:idx t.2.1 n.1=some x:=by unfold idx;rw[if_pos h0];exact hx
 rw[hid]
 simp only[Ab]
 rw[Arg _ zq0]
 simp only[Ab,ho,Bool.not_true,Aj]
theorem Apj {E:Type} {p:E->Bool} {l:List E} {i:Nat} {x:E} (hx:l[i]? =some x):(l.take (i+1)).filter p=(l.take i).filter p++(bif p x then [x]else []):=by
 rw[<-E9 hx,List.filter_append]
 cases h:p x<;>simp[List.filter_cons,h]
theorem A2i {E:Type} {p:E->Bool} {l:List E} {i:Nat}:((l.take i).filter p).length<=i:=by
 have:=List.length_filter_le p (l.take i)
 simp only[List.length_take]at this;omega
theorem Apk {E:Type} {f:E->Nat} {p:E->Bool}: ∀ {l:List E},Af f (l.filter p)<=Af f l
 |[]=>by simp[Af]
 |a::r=>by
  have:=Apk (f:=f) (p:=p) (l:=r)
  simp only[List.filter_cons]
  split<;>simp only[Af]<;>omega
theorem Bz1 (n:Nat):Nat.beq n n=true:=Nat.beq_refl n
theorem B1o {i:Nat}:Nat.ble (Int.toNat (i:Int)+1) (Int.toNat ((i:Int)+1))=true:=by
 rw[show Int.toNat (i:Int)=i by omega,show Int.toNat ((i:Int)+1)=i+1 by omega]
 exact Nat.ble_eq_true_of_le (Nat.le_refl _)
def Nn (n:Int) (x:Av):Bool:=decide (x.2.2.2.1≥n)
def Eg (p:Bd) (n:Int):Bd:=(p.1,p.2.1,p.2.2.1.filter (Nn n),())
theorem Xv (p:Bd) (n:YI) (h:A8 p<=4294967296):Tp p n=some (Eg p n.1):=by
 have h':=h
 obtain⟨a,b,l,⟨⟩⟩:=p
 simp only[A8]at h'
 have hl:=C6 (B:=Fm) l.length (fun i=>(n.1,l,(l.length:Int),(i:Int),(0:Int),(0:Int),([]:List Av),a,b,(l.take i).filter (Nn n.1),())) ((0:Int),(0:Int),([]:List Av),a,b,l.filter (Nn n.1),())
  (fun i hi=>by
   have hx:=List.getElem?_eq_getElem hi
   have hle:=A2i (p:=Nn n.1) (l:=l) (i:=i)
   have hs:=Apj (p:=Nn n.1) hx
   unfold Fm
   simp only[Ad,Ae,Aa,Ag,Bw hi,Ay,Bc hx,Ab,Bz1,Ar]
   rw[w64 zq0,B1o]
   simp only[Ar]
   rw[hs]
   have hp:Nn n.1 l[i]=decide (l[i].2.2.2.1≥n.1):=rfl
   rw[hp]
   cases decide (l[i].2.2.2.1≥n.1)with
   |false=>simp[Aj]
   |true=>
    simp only[Ay,cond_true]
    rw[Ai zq1,Ar]
    rfl)
  (by unfold Fm;simp only[Ad,Aa,B7,Aj,List.take_length])
 unfold Tp Mt
 simp only[Ae,Aa]
 rw[N5 _ h]
 simp only[Ab]
 rw[show Ax Fm (n.1,l,(l.length:Int),(0:Int),(0:Int),(0:Int),([]:List Av),a,b,([]:List Av),())=_ from hl]
 rfl
theorem A5u (p:Bd) (n:Int):A8 (Eg p n)<=A8 p:=by
 have h1:=List.length_filter_le (Nn n) p.2.2.1
 have h2:=Apk (f:=Bh) (p:=Nn n) (l:=p.2.2.1)
 simp only[A8,Eg];omega
def T5 (p:Bd) (n:Int):Bd:=bif Ei p && inR n 0 1000000 then Eg p n else p
theorem Bsu (p:Bd) (n:YI) (h:A8 p<=4294967296):Aj8 p n=some (T5 p n.1):=by
 have h':=h
 have hl0:p.2.2.1.length<=A8 p:=by simp only[A8];omega
 unfold Aj8 Aiu T5
 simp only[Ad,Ae,Aa]
 rw[Ama p zq0,C4,Zo p h]
 simp only[Ab]
 obtain⟨a,b,l,⟨⟩⟩:=p
 simp only[A8]at h'
 have hl:=C6 (B:=K8) l.length (fun i=>(n.1,(i:Int),a,b,l,(0:Int),(0:Int),([]:List Av),a,b,(l.take i).filter (Nn n.1),())) ((0:Int),(0:Int),([]:List Av),a,b,l.filter (Nn n.1),())
  (fun i hi=>by
   have hx:=List.getElem?_eq_getElem hi
   have hle:=A2i (p:=Nn n.1) (l:=l) (i:=i)
   have hs:=Apj (p:=Nn n.1) hx
   have hn:=Gj (f:=Bh) hx
   unfold K8
   simp only[Ad,Ae,Aa,Ag,Bw hi,Ay,Bc hx,Ab]
   rw[w64 zq0,hs,Amb _ zq0]
   simp only[Ab]
   have hp:Nn n.1 l[i]=decide (l[i].2.2.2.1≥n.1):=rfl
   rw[hp]
   cases decide (l[i].2.2.2.1≥n.1)with
   |false=>simp[Aj]
   |true=>
    simp only[Ay,cond_true]
    rw[Ai zq1,Ar]
    rfl)
  (by unfold K8;simp only[Ad,Aa,B7,Aj,List.take_length])
 rw[show Ax K8 (n.1,(0:Int),a,b,l,(0:Int),(0:Int),([]:List Av),a,b,([]:List Av),())=_ from hl]
 cases Ei (a,b,l,())<;>cases inR n.1 0 1000000<;>rfl
theorem A2j (s:Al):A8 (Bp s)<=Ap s:=by simp only[A8,Bp,Ap];omega
end
end Go.Proofs.YthccfdmiejmbaaaGreat
