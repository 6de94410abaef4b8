/-
  That the program and the reference answer alike, in plain terms, and that the laws answer true.
-/
import Derived.Test.YthccfdmiejmbaaaGreatG1
namespace Go.Proofs.YthccfdmiejmbaaaGreat
open Go.RowKit
set_option linter.unusedVariables false
set_option linter.unusedSimpArgs false
set_option maxRecDepth 100000
set_option maxHeartbeats 8000000
noncomputable section
def Boq (b:Int):Int:=IntKind.i64.wrap ((1:Int)*2^(min b.toNat IntKind.i64.bits))
def Bbe (w b:Int):Int:=IntKind.i64.wrap ((BitVec.ofInt IntKind.i64.bits w &&& ~~~ BitVec.ofInt IntKind.i64.bits (Boq b)).toNat:Nat)
def Ajb (w b:Int):Int:=IntKind.i64.wrap ((BitVec.ofInt IntKind.i64.bits w ||| BitVec.ofInt IntKind.i64.bits (Boq b)).toNat:Nat)
theorem Bmm {b:Nat} (h:b<32):Boq (b:Int)=((2^b:Nat):Int):=by
 unfold Boq
 rw[show min (Int.toNat (b:Int)) IntKind.i64.bits=b by rw[Int.toNat_natCast];show min b 64=b;omega]
 have h1:(2:Nat)^b<=2^31:=Nat.pow_le_pow_right zq7 zq0
 have h2:((1:Int)*2^b)=((2^b:Nat):Int):=by push_cast;omega
 rw[h2]
 generalize (2:Nat)^b=N at h1 ⊢
 exact w64 zq0
theorem Pc (n:Nat):BitVec.ofInt IntKind.i64.bits (n:Int)=BitVec.ofNat 64 n:=by
 show BitVec.ofInt 64 (n:Int)=_
 simp
theorem Bvq {w b:Nat} (hw:w<4294967296) (hb:b<32): ∃r:Nat,Bbe (w:Int) (b:Int)=(r:Int)/\r<4294967296/\ ∀j,r.testBit j=(w.testBit j && !decide (j=b)):=by
 unfold Bbe
 rw[Bmm hb,Pc,Pc]
 refine⟨(BitVec.ofNat 64 w &&& ~~~ BitVec.ofNat 64 (2^b)).toNat,?_,?_,fun j=>?_⟩
 .have h1:(BitVec.ofNat 64 w &&& ~~~ BitVec.ofNat 64 (2^b)).toNat<=w:=by
   rw[BitVec.toNat_and]
   refine Nat.le_trans Nat.and_le_left ?_
   rw[BitVec.toNat_ofNat];exact Nat.mod_le _ _
  show IntKind.i64.wrap (((BitVec.ofNat 64 w &&& ~~~ BitVec.ofNat 64 (2^b)).toNat:Nat):Int)=_
  exact w64 zq0
 .have h1:(BitVec.ofNat 64 w &&& ~~~ BitVec.ofNat 64 (2^b)).toNat<=w:=by
   rw[BitVec.toNat_and]
   refine Nat.le_trans Nat.and_le_left ?_
   rw[BitVec.toNat_ofNat];exact Nat.mod_le _ _
  omega
 .rw[show((BitVec.ofNat 64 w &&& ~~~ BitVec.ofNat 64 (2^b)).toNat).testBit j=(BitVec.ofNat 64 w &&& ~~~ BitVec.ofNat 64 (2^b)).getLsbD j from rfl]
  rw[BitVec.getLsbD_and,BitVec.getLsbD_not,BitVec.getLsbD_ofNat,BitVec.getLsbD_ofNat,Nat.testBit_two_pow]
  by_cases hj:j<64
  .rw[show decide (j<64)=true from decide_eq_true hj]
   simp only[Bool.true_and]
   congr 2
   simp[eq_comm]
  .have:w.testBit j=false:=Nat.testBit_lt_two_pow (Nat.lt_of_lt_of_le hw (Nat.le_trans (by decide:4294967296<=2^64) (Nat.pow_le_pow_right zq7 zq0)))
   rw[this];simp
theorem Bbf {w b:Nat} (hw:w<4294967296) (hb:b<32): ∃r:Nat,Ajb (w:Int) (b:Int)=(r:Int)/\r<4294967296/\ ∀j,r.testBit j=(w.testBit j || decide (j=b)):=by
 unfold Ajb
 rw[Bmm hb,Pc,Pc]
 have hlt:(BitVec.ofNat 64 w ||| BitVec.ofNat 64 (2^b)).toNat<2^32:=by
  rw[BitVec.toNat_or]
  refine Nat.or_lt_two_pow ?_ ?_
  .rw[BitVec.toNat_ofNat];exact Nat.lt_of_le_of_lt (Nat.mod_le _ _) hw
  .rw[BitVec.toNat_ofNat];exact Nat.lt_of_le_of_lt (Nat.mod_le _ _) (Nat.pow_lt_pow_right zq7 hb)
 refine⟨(BitVec.ofNat 64 w ||| BitVec.ofNat 64 (2^b)).toNat,?_,hlt,fun j=>?_⟩
 .show IntKind.i64.wrap (((BitVec.ofNat 64 w ||| BitVec.ofNat 64 (2^b)).toNat:Nat):Int)=_
  exact w64 zq0
 .rw[show((BitVec.ofNat 64 w ||| BitVec.ofNat 64 (2^b)).toNat).testBit j=(BitVec.ofNat 64 w ||| BitVec.ofNat 64 (2^b)).getLsbD j from rfl]
  rw[BitVec.getLsbD_or,BitVec.getLsbD_ofNat,BitVec.getLsbD_ofNat,Nat.testBit_two_pow]
  by_cases hj:j<64
  .rw[show decide (j<64)=true from decide_eq_true hj]
   simp only[Bool.true_and]
   congr 1
   simp[eq_comm]
  .have h1:w.testBit j=false:=Nat.testBit_lt_two_pow (Nat.lt_of_lt_of_le hw (Nat.le_trans (by decide:4294967296<=2^64) (Nat.pow_le_pow_right zq7 zq0)))
   have h2:decide (j=b)=false:=decide_eq_false zq0
   rw[h1,h2];simp[hj]
def I6 (l:List YI):Prop:=l.length=32/\ ∀(q:Nat) (x:YI),l[q]? =some x->0<=x.1/\x.1<4294967296
def Ab2 (l:List YI) (r:Nat):Bool:=((l[r/32]?.getD (0,())).1.toNat).testBit (r%32)
theorem Brq {l m:List YI} (h:I6 l) (k:I6 m) (hb: ∀r,r<1024->Ab2 l r=Ab2 m r):l=m:=by
 apply List.ext_getElem?
 intro q
 by_cases hq:q<32
 .have hql:q<l.length:=by rw[h.1];exact hq
  have hqm:q<m.length:=by rw[k.1];exact hq
  have hx:=List.getElem?_eq_getElem hql
  have hy:=List.getElem?_eq_getElem hqm
  have h1:=h.2 q _ hx
  have h2:=k.2 q _ hy
  have he:l[q].1.toNat=m[q].1.toNat:=by
   apply Nat.eq_of_testBit_eq
   intro j
   by_cases hj:j<32
   .have:=hb (32*q+j) zq0
    unfold Ab2 at this
    rw[show(32*q+j)/32=q by omega,show(32*q+j)%32=j by omega,hx,hy]at this
    exact this
   .have e: ∀n:Nat,n<4294967296->n.testBit j=false:=fun n hn=>Nat.testBit_lt_two_pow (Nat.lt_of_lt_of_le hn (Nat.le_trans (by decide:4294967296<=2^32) (Nat.pow_le_pow_right zq7 zq0)))
    rw[e _ zq0,e _ zq0]
  rw[hx,hy]
  have he2:l[q].1=m[q].1:=by omega
  have:l[q]=m[q]:=Prod.ext he2 rfl
  rw[this]
 .rw[List.getElem?_eq_none (by rw[h.1];omega),List.getElem?_eq_none (by rw[k.1];omega)]
def Pw (f:Int->Int->Int) (l:List YI) (n:Int):List YI:=l.set ((n%1024)/32).toNat (f (l[((n%1024)/32).toNat]?.getD (0,())).1 (n%32),())
theorem A1d {f:Int->Int->Int} {g:Bool->Bool->Bool} (hf: ∀ {w b:Nat},w<4294967296->b<32-> ∃r:Nat,f (w:Int) (b:Int)=(r:Int)/\r<4294967296/\ ∀j,r.testBit j=g (w.testBit j) (decide (j=b))) (hg: ∀x,g x false=x)
  {l:List YI} (h:I6 l) {n:Int} (h0:0<=n):I6 (Pw f l n)/\ ∀r,r<1024->Ab2 (Pw f l n) r=g (Ab2 l r) (decide ((r:Int)=n%1024)):=by
 obtain⟨m,rfl⟩:=Int.eq_ofNat_of_zero_le h0
 have hq:((m:Int)%1024/32).toNat=m%1024/32:=by omega
 have hlt:m%1024/32<l.length:=by rw[h.1];omega
 have hx:=List.getElem?_eq_getElem hlt
 have hw:=h.2 _ _ hx
 obtain⟨r,r1,r2,r3⟩:=hf (w:=l[m%1024/32].1.toNat) (b:=m%32) zq0 zq0
 have hval:f (l[m%1024/32]?.getD (0,())).1 ((m:Int)%32)=(r:Int):=by
  rw[hx]
  show f l[m%1024/32].1 ((m:Int)%32)=_
  rw[<-r1]
  congr 1<;>omega
 have ht:Pw f l (m:Int)=l.set (m%1024/32) ((r:Int),()):=by
  unfold Pw
  rw[hq,hval]
 rw[ht]
 refine⟨⟨by rw[List.length_set];exact h.1,fun q x hx'=>?_⟩,fun k hk=>?_⟩
 .rw[List.getElem?_set]at hx'
  split at hx'
  .simp only[Option.some.injEq]at hx'
   subst hx'
   exact⟨by simp,by simp;omega⟩
  .exact h.2 q x hx'
 .unfold Ab2
  rw[List.getElem?_set]
  by_cases hk2:m%1024/32=k/32
  .rw[if_pos hk2,if_pos hlt]
   show r.testBit (k%32)=_
   rw[r3,hk2.symm,hx]
   show g _ _=g _ _
   congr 1
   apply decide_eq_decide.2
   omega
  .rw[if_neg hk2]
   rw[show decide ((k:Int)=(m:Int)%1024)=false from decide_eq_false zq0,hg]
def Nx (l:List YI) (s:Int):Nat->List YI
 |0=>l
 |m+1=>Pw Bbe (Nx l s m) (s+m)
theorem Xd {l:List YI} (h:I6 l) {s:Int} (h0:0<=s): ∀m:Nat,I6 (Nx l s m)/\ ∀r,r<1024->Ab2 (Nx l s m) r=(Ab2 l r && decide (∀k:Nat,k<m->(r:Int)≠(s+k)%1024))
 |0=>⟨h,fun r _=>by simp[Nx]⟩
 |m+1=>by
  obtain⟨h1,h2⟩:=Xd h h0 m
  obtain⟨h3,h4⟩:=A1d (f:=Bbe) (g:=fun x y=>x && !y) (fun hw hb=>Bvq hw hb) (fun x=>by simp) h1 (n:=s+m) zq0
  refine⟨h3,fun r hr=>?_⟩
  show Ab2 (Pw Bbe (Nx l s m) (s+m)) r=_
  rw[h4 r hr,h2 r hr,Bool.and_assoc]
  congr 1
  rw[<-decide_not,<-Bool.decide_and]
  apply decide_eq_decide.2
  constructor
  .rintro⟨a,b⟩ k hk
   rcases Nat.lt_or_ge k m with h|h
   .exact a k h
   .rw[show k=m by omega];exact b
  .intro a
   exact⟨fun k hk=>a k zq0,a m zq0⟩
theorem Bw3 {l:List YI} (h:I6 l) {s1 s2 n:Int} {m1 m2:Nat} (h1:0<=s1) (h2:0<=s2) (hn:0<=n)
  (he: ∀r:Nat,r<1024->(r:Int)≠n%1024->((∀k:Nat,k<m1->(r:Int)≠(s1+k)%1024)↔ ∀k:Nat,k<m2->(r:Int)≠(s2+k)%1024)):
  Pw Ajb (Nx l s1 m1) n=Pw Ajb (Nx l s2 m2) n:=by
 obtain⟨a1,a2⟩:=Xd h h1 m1
 obtain⟨b1,b2⟩:=Xd h h2 m2
 obtain⟨a3,a4⟩:=A1d (f:=Ajb) (g:=fun x y=>x || y) (fun hw hb=>Bbf hw hb) (fun x=>by simp) a1 hn
 obtain⟨b3,b4⟩:=A1d (f:=Ajb) (g:=fun x y=>x || y) (fun hw hb=>Bbf hw hb) (fun x=>by simp) b1 hn
 refine Brq a3 b3 fun r hr=>?_
 rw[a4 r hr,b4 r hr,a2 r hr,b2 r hr]
 by_cases hrn:(r:Int)=n%1024
 .rw[show decide ((r:Int)=n%1024)=true from decide_eq_true hrn];simp
 .rw[show decide ((r:Int)=n%1024)=false from decide_eq_false hrn]
  simp only[Bool.or_false]
  congr 1
  exact decide_eq_decide.2 (he r hr hrn)
theorem Aur {l:List YI} (h:I6 l) {n:Int} (h0:0<=n):idx l (n%1024/32)=some (l[((n%1024)/32).toNat]?.getD (0,())):=by
 have hlt:((n%1024)/32).toNat<l.length:=by rw[h.1];omega
 unfold idx
 rw[if_pos zq0,List.getElem?_eq_getElem hlt];rfl
theorem Ad5 {w:Dg} (h:N3 w=true):I6 w.2.1/\ -1<=w.1/\w.1<=281474976710655:=by
 unfold N3 at h
 simp only[Bool.and_eq_true]at h
 have h1:=Bx.1 h.1
 refine⟨⟨by have:=h.2.1.2;simp at this;omega,fun q x hx=>?_⟩,h1.1,h1.2⟩
 have:=Age.1 h.2.1.1 q x hx
 omega
def Kj (w:Dg) (n:Int):Bool:=N3 w && (inR n 0 281474976710655 && (decide (n>w.1) || (decide (n≥w.1-1023) && !Afd w n)))
theorem Bts (w:Dg) (n:YI) (hl:w.2.1.length<=4294967296):At0 w n=some (Kj w n.1,()):=by
 unfold At0 Asu Kj
 simp only[Af,Ah,Aa]
 rw[Bmd w hl,Cm]
 simp only[Ac]
 cases ho:N3 w with
 |false=>rfl
 |true=>
  obtain⟨h1,h2,h3⟩:=Ad5 ho
  cases hn:inR n.1 0 281474976710655 with
  |false=>rfl
  |true=>
   have hn':=Bx.1 hn
   simp only[Bool.not_true,Ao]
   rw[w64 (n:=w.1-1024) zq0,w64 zq0,A5g w n h1.1 hn'.1,show w.1-1024+1=w.1-1023 by omega]
   cases decide (n.1>w.1)<;>cases decide (n.1≥w.1-1023)<;>rfl
theorem Bh6 (w:Dg) (n:YI) (hl:w.2.1.length<=4294967296):Af1 w n=some (Kj w n.1,()):=by
 unfold Af1 Aq4 Kj A24 Alt
 simp only[Af,Ah,Aa]
 rw[Bme w,Cy]
 simp only[Ac]
 cases ho:N3 w with
 |false=>rfl
 |true=>
  obtain⟨h1,h2,h3⟩:=Ad5 ho
  cases hn:inR n.1 0 281474976710655 with
  |false=>rfl
  |true=>
   have hn':=Bx.1 hn
   simp only[Bool.not_true,Ao]
   rw[w64 (n:=w.1-1024) zq0,w64 zq0,Bbb w n h1.1 hn'.1,show w.1-1024+1=w.1-1023 by omega]
   simp only[Ac]
   by_cases hg:n.1>w.1
   .rw[Ai hg];rfl
   .rw[Bt hg]
    by_cases ht:w.1<1024
    .rw[Ai ht,A6,Ac]
     simp only
     rw[Ai (p:=n.1≥0) zq0,Ai (p:=n.1≥w.1-1023) zq0];rfl
    .rw[Bt ht]
     simp only[Ao,Ac]
     cases decide (n.1≥w.1-1023)<;>rfl
theorem Brr {l:List YI} (h:I6 l) (n s t:Int) (l0:List YI) (t':Int) (m:Nat) (h0:0<=s) (hm:s+m=n\/(m=0/\n<=s)) (hn:n<=281474976710656) (hs:s<=281474976710656):
  A0 Ok (n,s,t,l0,(0:Int),([]:List YI),t',l,())=some (n,t,l0,(0:Int),([]:List YI),t',Nx l s m,()):=by
 have hl:=Cs (B:=Ok) m (fun i=>(n,s+(i:Int),t,l0,(0:Int),([]:List YI),t',Nx l s i,())) (n,t,l0,(0:Int),([]:List YI),t',Nx l s m,())
  (fun i hi=>by
   have hw:=(Xd h h0 i).1
   have hx:=Aur hw (n:=s+(i:Int)) zq0
   unfold Ok
   simp only[Af,Ah,Aa,Ak]
   rw[Ai (p:=s+(i:Int)<n) zq0,A6,Ai (p:=(0:Int)<=s+(i:Int)) zq0,Ai (p:=(0:Int)<=(s+(i:Int))%1024) zq0,Ai (p:=(0:Int)<=(s+(i:Int))%32) zq0,hx,w64 (n:=s+(i:Int)+1) zq0]
   simp only[Ac,Ay]
   rw[show s+((i+1:Nat):Int)=s+(i:Int)+1 by push_cast;omega]
   rfl)
  (by
   unfold Ok
   simp only[Af,Ah,Aa,Ak]
   rw[Bt zq0,Ao])
 rw[show s=s+((0:Nat):Int) by simp]at hl
 simpa [Nx] using hl
theorem Brs {l:List YI} (h:I6 l) (n s t:Int) (l0:List YI) (t':Int) (m:Nat) (h0:0<=s) (hm:(s+m=n+1/\m<=1024)\/(m=1024/\s+1024<=n+1)\/(m=0/\n<s)) (hn:n<=281474976710656) (hs:s<=281474976710656):
  A0 N8 (n,(0:Int),s,t,l0,(0:Int),([]:List YI),t',l,())=some (n,t,l0,(0:Int),([]:List YI),t',Nx l s m,()):=by
 have hl:=Cs (B:=N8) m (fun i=>(n,(i:Int),s+(i:Int),t,l0,(0:Int),([]:List YI),t',Nx l s i,())) (n,t,l0,(0:Int),([]:List YI),t',Nx l s m,())
  (fun i hi=>by
   have hw:=(Xd h h0 i).1
   have hx:=Aur hw (n:=s+(i:Int)) zq0
   unfold N8
   simp only[Af,Ah,Aa,Ak]
   rw[Ai (p:=s+(i:Int)<=n) zq0,A6,Ai (p:=(i:Int)<1024) zq0,A6,Ai (p:=(0:Int)<=s+(i:Int)) zq0,Ai (p:=(0:Int)<=(s+(i:Int))%1024) zq0,show(s+(i:Int))%1024%32=(s+(i:Int))%32 by omega,Ai (p:=(0:Int)<=(s+(i:Int))%32) zq0,hx,w64 (n:=s+(i:Int)+1) zq0,w64 (n:=(i:Int)+1) zq0]
   simp only[Ac,Ay]
   rw[show s+((i+1:Nat):Int)=s+(i:Int)+1 by push_cast;omega]
   rfl)
  (by
   unfold N8
   simp only[Af,Ah,Aa,Ak]
   by_cases hle:s+(m:Int)<=n
   .rw[Ai hle,A6,Bt (p:=(m:Int)<1024) zq0,Ao]
   .rw[Bt hle,Ao])
 rw[show s=s+((0:Nat):Int) by simp]at hl
 simpa [Nx] using hl
def Bh7 (t n:Int):Nat:=if n<=t then 0 else if n<=t+1024 then(n-t-1).toNat else 1023
def Ant (t n:Int):Int:=if t+1<n-1023 then n-1023 else t+1
def Anu (t n:Int):Nat:=if n<=t then 0 else if n<=t+1024 then(n-t).toNat else 1024
def L5 (w:Dg) (n:Int):Dg:=(if w.1<n then n else w.1,Pw Ajb (Nx w.2.1 (w.1+1) (Anu w.1 n)) n,())
theorem Btt {l:List YI} (h:I6 l) {t n:Int} (ht: -1<=t) (hn:0<=n):Pw Ajb (Nx l (Ant t n) (Bh7 t n)) n=Pw Ajb (Nx l (t+1) (Anu t n)) n:=by
 refine Bw3 h (by unfold Ant;split<;>omega) zq0 hn fun r hr hne=>?_
 unfold Bh7 Anu Ant
 by_cases h1:n<=t
 .rw[if_pos h1,if_pos h1]
  exact⟨fun _ k hk=>by omega,fun _ k hk=>by omega⟩
 .rw[if_neg h1,if_neg h1]
  by_cases h2:n<=t+1024
  .rw[if_pos h2,if_pos h2,if_neg zq0]
   constructor
   .intro hk k hk2
    rcases Nat.lt_or_ge k (n-t-1).toNat with hh|hh
    .exact hk k hh
    .have:t+1+(k:Int)=n:=by omega
     rw[this];exact hne
   .intro hk k hk2
    exact hk k zq0
  .rw[if_neg h2,if_neg h2,if_pos zq0]
   constructor
   .intro hk
    exact(hk (((r:Int)-(n-1023))%1024).toNat zq0 zq0).elim
   .intro hk
    exact(hk (((r:Int)-(t+1))%1024).toNat zq0 zq0).elim
theorem Bh8 {f:Int->Int->Int} {l:List YI} {n:Int}:(Pw f l n).length=l.length:=by unfold Pw;simp
theorem Bh9 {l:List YI} {s:Int}: ∀m,(Nx l s m).length=l.length
 |0=>rfl
 |m+1=>by show(Pw Bbe (Nx l s m) (s+m)).length=_;rw[Bh8,Bh9 m]
theorem A3c (w:Dg) (n:Int):Gv (L5 w n)=Gv w:=by
 simp only[Gv,L5,Bh8,Bh9]
theorem Btu (w:Dg) (n:YI) (hl:w.2.1.length<=4294967296):At1 w n=some (bif Kj w n.1 then(L5 w n.1,(true,()))else(w,(false,()))):=by
 unfold At1 Asv
 simp only[Af,Ah,Aa,Ak]
 rw[Azx w (by simp only[Gv];omega),Bts w n hl]
 simp only[Ac]
 cases hm:Kj w n.1 with
 |false=>rfl
 |true=>
  have hm':=hm
  unfold Kj at hm'
  simp only[Bool.and_eq_true]at hm'
  obtain⟨h1,h2,h3⟩:=Ad5 hm'.1
  have hn:=Bx.1 hm'.2.1
  simp only[Bool.not_true,Ao,cond_true]
  rw[w64 (n:=w.1+1) zq0,w64 (n:=n.1-1024) zq0,w64 (n:=n.1-1024+1) zq0,show n.1-1024+1=n.1-1023 by omega]
  rw[show(if w.1+1<n.1-1023 then n.1-1023 else w.1+1)=Ant w.1 n.1 from rfl]
  rw[Brr h1 n.1 (Ant w.1 n.1) w.1 w.2.1 w.1 (Bh7 w.1 n.1) (by unfold Ant;split<;>omega) (by unfold Ant Bh7;split<;>(try split)<;>(try split)<;>omega) zq0 (by unfold Ant;split<;>omega)]
  have hw:=(Xd h1 (s:=Ant w.1 n.1) (by unfold Ant;split<;>omega) (Bh7 w.1 n.1)).1
  simp only[Ac]
  rw[Ai (p:=(0:Int)<=n.1) zq0,Ai (p:=(0:Int)<=n.1%1024) zq0,Ai (p:=(0:Int)<=n.1%32) zq0,Aur hw hn.1]
  simp only[Ac,Ay]
  unfold L5
  rw[<-Btt h1 h2 hn.1]
  rfl
theorem Bia (w:Dg) (n:YI) (hl:w.2.1.length<=4294967296):Z4 w n=some (bif Kj w n.1 then(L5 w n.1,(true,()))else(w,(false,()))):=by
 unfold Z4 Aq6
 simp only[Af,Ah,Aa,Ak]
 rw[Bht w (by simp only[Gv];omega),Bh6 w n hl]
 simp only[Ac]
 cases hm:Kj w n.1 with
 |false=>rfl
 |true=>
  have hm':=hm
  unfold Kj at hm'
  simp only[Bool.and_eq_true]at hm'
  obtain⟨h1,h2,h3⟩:=Ad5 hm'.1
  have hn:=Bx.1 hm'.2.1
  simp only[Bool.not_true,Ao,cond_true]
  rw[w64 (n:=w.1+1) zq0]
  rw[Brs h1 n.1 (w.1+1) w.1 w.2.1 w.1 (Anu w.1 n.1) zq0 (by unfold Anu;split<;>(try split)<;>omega) zq0 zq0]
  have hw:=(Xd h1 (s:=w.1+1) zq0 (Anu w.1 n.1)).1
  simp only[Ac]
  rw[Ai (p:=(0:Int)<=n.1) zq0,Ai (p:=(0:Int)<=n.1%1024) zq0,show n.1%1024%32=n.1%32 by omega,Ai (p:=(0:Int)<=n.1%32) zq0,Aur hw hn.1]
  simp only[Ac,Ay]
  unfold L5
  by_cases hg:n.1>w.1
  .rw[Ai hg,A6,if_pos hg];rfl
  .rw[Bt hg,Ao,if_neg hg];rfl
def orx (d x y:Int):Int:=IntKind.i64.wrap ((BitVec.ofInt (IntKind.i64.bits) d ||| BitVec.ofInt (IntKind.i64.bits) ((IntKind.i64.wrap ((IntKind.u8.wrap ((BitVec.ofInt (IntKind.u8.bits) x ^^^ BitVec.ofInt (IntKind.u8.bits) y).toNat:Nat)))))).toNat:Nat)
theorem Bw4 {x y:Nat} (hx:x<=255) (hy:y<=255): ∃u:Nat,IntKind.i64.wrap ((IntKind.u8.wrap ((BitVec.ofInt (IntKind.u8.bits) (x:Int) ^^^ BitVec.ofInt (IntKind.u8.bits) (y:Int)).toNat:Nat)))=(u:Int)/\u<=255/\(u=0↔x=y):=by
 have e1:BitVec.ofInt (IntKind.u8.bits) (x:Int)=BitVec.ofNat 8 x:=by show BitVec.ofInt 8 (x:Int)=_;simp
 have e2:BitVec.ofInt (IntKind.u8.bits) (y:Int)=BitVec.ofNat 8 y:=by show BitVec.ofInt 8 (y:Int)=_;simp
 rw[e1,e2]
 have hlt:(BitVec.ofNat 8 x ^^^ BitVec.ofNat 8 y).toNat<256:=(BitVec.ofNat 8 x ^^^ BitVec.ofNat 8 y).isLt
 refine⟨(BitVec.ofNat 8 x ^^^ BitVec.ofNat 8 y).toNat,?_,by omega,?_⟩
 .show IntKind.i64.wrap (IntKind.u8.wrap (((BitVec.ofNat 8 x ^^^ BitVec.ofNat 8 y).toNat:Nat):Int))=_
  rw[w8 zq0,w64 zq0]
 .constructor
  .intro h
   have h1:BitVec.ofNat 8 x ^^^ BitVec.ofNat 8 y=0#8:=by apply BitVec.eq_of_toNat_eq;simpa using h
   have h2:BitVec.ofNat 8 x=BitVec.ofNat 8 y:=by
    have:=congrArg (· ^^^ BitVec.ofNat 8 y) h1
    simpa [BitVec.xor_assoc] using this
   have h3:=congrArg BitVec.toNat h2
   simp only[BitVec.toNat_ofNat]at h3
   omega
  .intro h;subst h;simp
theorem Bw5 {d x y:Int} (hd:0<=d/\d<=255) (hx:0<=x/\x<=255) (hy:0<=y/\y<=255):(0<=orx d x y/\orx d x y<=255)/\(orx d x y=0↔d=0/\x=y):=by
 obtain⟨d',rfl⟩:=Int.eq_ofNat_of_zero_le hd.1
 obtain⟨x',rfl⟩:=Int.eq_ofNat_of_zero_le hx.1
 obtain⟨y',rfl⟩:=Int.eq_ofNat_of_zero_le hy.1
 obtain⟨u,u1,u2,u3⟩:=Bw4 (x:=x') (y:=y') zq0 zq0
 have e1:BitVec.ofInt (IntKind.i64.bits) (d':Int)=BitVec.ofNat 64 d':=Pc d'
 have e2:BitVec.ofInt (IntKind.i64.bits) (u:Int)=BitVec.ofNat 64 u:=Pc u
 have hv:(BitVec.ofNat 64 d' ||| BitVec.ofNat 64 u).toNat=d' ||| u:=by
  rw[BitVec.toNat_or,BitVec.toNat_ofNat,BitVec.toNat_ofNat,Nat.mod_eq_of_lt zq0,Nat.mod_eq_of_lt zq0]
 have hlt:d' ||| u<2^8:=Nat.or_lt_two_pow zq0 zq0
 have hw:IntKind.i64.wrap (((BitVec.ofNat 64 d' ||| BitVec.ofNat 64 u).toNat:Nat):Int)=((d' ||| u:Nat):Int):=by
  rw[hv];exact w64 zq0
 have hz:(d' ||| u)=0↔d'=0/\u=0:=by
  constructor
  .intro h
   have h1:d'<=d' ||| u:=Nat.left_le_or
   have h2:u<=d' ||| u:=Nat.right_le_or
   omega
  .rintro⟨rfl,rfl⟩;rfl
 have key:orx (d':Int) (x':Int) (y':Int)=((d' ||| u:Nat):Int):=by
  unfold orx
  rw[u1,e1,e2]
  exact hw
 rw[key]
 refine⟨by omega,?_⟩
 rw[show(((d' ||| u:Nat):Int)=0)↔(d' ||| u)=0 by omega,hz,u3]
 omega
theorem Bib {a b:List YB} {i:Nat} {x y:YB} (hx:a[i]? =some x) (hy:b[i]? =some y):(a.take (i+1)=b.take (i+1))↔(a.take i=b.take i/\x.1=y.1):=by
 have ha:i<a.length:=(List.getElem?_eq_some_iff.1 hx).1
 have hb:i<b.length:=(List.getElem?_eq_some_iff.1 hy).1
 rw[<-Ff hx,<-Ff hy]
 constructor
 .intro h
  have:=List.append_inj h zq1
  refine⟨this.1,?_⟩
  have h2:=this.2
  simp only[List.cons.injEq,and_true]at h2
  rw[h2]
 .rintro⟨h1,h2⟩
  have:x=y:=Prod.ext h2 rfl
  rw[h1,this]
theorem Bmn (a b:List YB) (h:a.length<=4294967296): ∃r,Wn (a,()) (b,())=some (r,())/\A5e (a,()) (b,())=some (r,())/\(wfB a->wfB b->(r=0↔a=b)):=by
 unfold Wn A4v A5e A44
 simp only[Af,Ah,Aa]
 by_cases hl:a.length=b.length
 .have e:(((a.length:Int) != (b.length:Int)))=false:=by simp[hl]
  simp only[e,Ao]
  obtain⟨o1,o2,h1,h2,hq⟩:=Wo (B1:=Zq) (B2:=Zw)
   (fun i d1 d2=>∃d:Int,(wfB a->wfB b->(0<=d/\d<=255)/\(d=0↔a.take i=b.take i))/\d1=(a,b,d,(a.length:Int),(i:Int),())/\d2=(a,b,d,(i:Int),()))
   (fun o1 o2=>o1=o2/\(wfB a->wfB b->(o1.1=0↔a=b))) a.length
   (by
    rintro i d1 d2 hi ⟨d,hd,rfl,rfl⟩
    have hib:i<b.length:=by omega
    have hx:=List.getElem?_eq_getElem hi
    have hy:=List.getElem?_eq_getElem hib
    left
    unfold Zq Zw
    simp only[Af,Ah,Aa,Dh hi,A6,B8 hx,B8 hy,Ac]
    rw[w64 (n:=(i:Int)+1) zq0]
    refine⟨_,_,rfl,rfl,orx d a[i].1 b[i].1,fun wa wb=>?_,rfl,rfl⟩
    obtain⟨hr,hz⟩:=hd wa wb
    obtain⟨k1,k2⟩:=Bw5 hr (wa i _ hx) (wb i _ hy)
    exact⟨k1,by rw[k2,hz,Bib hx hy]⟩)
   (by
    rintro d1 d2 ⟨d,hd,rfl,rfl⟩
    unfold Zq Zw
    simp only[Af,Ah,Aa,Di,Ao]
    refine⟨_,_,rfl,rfl,rfl,fun wa wb=>?_⟩
    rw[(hd wa wb).2,List.take_length,hl,List.take_length])
   (d1:=(a,b,(0:Int),(a.length:Int),(0:Int),())) (d2:=(a,b,(0:Int),(0:Int),())) ⟨0,fun _ _=>⟨by omega,by simp⟩,rfl,rfl⟩
  obtain⟨hq1,hq2⟩:=hq
  subst hq1
  rw[h1,h2]
  exact⟨o1.1,rfl,rfl,hq2⟩
 .have e:(((a.length:Int) != (b.length:Int)))=true:=by simp;omega
  simp only[e,A6]
  exact⟨-1,rfl,rfl,fun _ _=>⟨fun h=>by omega,fun h=>(hl (by rw[h])).elim⟩⟩
theorem Agf (a b:List YB) (h:a.length<=4294967296): ∃r,Rb (a,()) (b,())=some (r,())/\Vh (a,()) (b,())=some (r,()):=by
 unfold Rb Amp Vh Amz
 simp only[Af,Ah,Aa]
 obtain⟨r,r1,r2,_⟩:=Bmn a b h
 rw[r1,r2]
 simp only[Ac]
 cases ((a.length:Int)==(16:Int))<;>exact⟨_,rfl,rfl⟩
theorem Brt (k:List YB) (r:Int) (f:Ap) (h:Av f<=536870912): ∃p b,At2 (k,()) (r,()) f=some ((p,()),(b,()))/\At5 (k,()) (r,()) f=some ((p,()),(b,()))/\p.length<=Av f/\
  (b=true->k.length=32/\p=mix k (Et r f.2.2.2.1 f.2.2.2.2.2.2.2.1 f.2.2.2.2.2.2.2.2.1) f.2.2.2.2.2.2.2.2.2.1):=by
 have hm:=Azw k (Et r f.2.2.2.1 f.2.2.2.2.2.2.2.1 f.2.2.2.2.2.2.2.2.1) f.2.2.2.2.2.2.2.2.2.1
 have hn:f.2.2.2.2.2.2.2.2.2.1.length<=Av f:=by simp only[Av];omega
 have hn2:f.2.2.2.2.2.2.2.2.2.2.1.length<=Av f:=by simp only[Av];omega
 obtain⟨t,t1,t2⟩:=Agf f.2.2.2.2.2.2.2.2.2.2.1 (Ur k (D9 r f)) zq0
 unfold At2 Asw At5 As4
 simp only[Af,Ah,Aa]
 rw[Ug _ _ h,Aan _ _ h]
 simp only[Ac]
 rw[Bf1,Bf2]
 simp only[Ac]
 rw[t1,t2]
 simp only[Ac]
 rw[A5k,Aui]
 simp only[Ac]
 rw[Bvb,Bvc]
 simp only[Ac]
 cases hk:((k.length:Int) != (32:Int))with
 |true=>exact⟨[],false,rfl,rfl,by simp,fun h=>by cases h⟩
 |false=>
  cases (((D9 r f).length:Int)==(0:Int))with
  |true=>exact⟨[],false,rfl,rfl,by simp,fun h=>by cases h⟩
  |false=>
   cases t with
   |false=>exact⟨[],false,rfl,rfl,by simp,fun h=>by cases h⟩
   |true=>exact⟨_,true,rfl,rfl,by omega,fun _=>⟨by simp at hk;omega,rfl⟩⟩
def EpO (e:YEp) (r:Int) (f:Ap) (e':YEp) (p:List YB) (z:Int):Prop:=
 Cu e'=Cu e/\p.length<=Av f/\(z≠0->e'=e/\p=[])/\(z=0->Hu e=true/\e'=(e.1,e.2.1,e.2.2.1,(L5 (e.2.2.2.1,e.2.2.2.2.1,()) f.2.2.2.2.2.2.2.2.1).1,(L5 (e.2.2.2.1,e.2.2.2.2.1,()) f.2.2.2.2.2.2.2.2.1).2.1,())/\Kj (e.2.2.2.1,e.2.2.2.2.1,()) f.2.2.2.2.2.2.2.2.1=true/\
  f.2.2.2.2.2.2.2.1=e.1/\p=mix e.2.1 (Et r f.2.2.2.1 f.2.2.2.2.2.2.2.1 f.2.2.2.2.2.2.2.2.1) f.2.2.2.2.2.2.2.2.2.1)
theorem Akx (e:YEp) (r:Int) (f:Ap) (h:Cu e<=4294967296) (h2:Av f<=536870912):
  ∃e' p z,Jd e (r,()) f=some (e',(p,()),(z,()))/\M9 e (r,()) f=some (e',(p,()),(z,()))/\EpO e r f e' p z:=by
 have hw:=A3c (e.2.2.2.1,e.2.2.2.2.1,()) f.2.2.2.2.2.2.2.2.1
 have hn:Cu e=e.2.1.length+e.2.2.2.2.1.length:=rfl
 have nope: ∀z:Int,z≠0-> ∃e' p z',some (e,(([]:List YB),()),(z,()))=some (e',(p,()),(z',()))/\some (e,(([]:List YB),()),(z,()))=some (e',(p,()),(z',()))/\EpO e r f e' p z':=fun z hz=>
  ⟨e,[],z,rfl,rfl,rfl,by simp,fun _=>⟨rfl,rfl⟩,fun h=>(hz h).elim⟩
 obtain⟨p,b,u1,u2,u3,u4⟩:=Brt e.2.1 r f h2
 unfold Jd Asx M9 As5
 simp only[Af,Ah,Aa]
 rw[A5l e h,Auj e h,A8r e zq0,Bhh e,Ug _ _ h2,Aan _ _ h2,Btu _ _ zq2,Bia _ _ zq2,Bh6 _ _ zq2,u1,u2]
 simp only[Ac]
 cases ho:Hu e with
 |false=>exact nope 1 zq7
 |true=>
  simp only[Bool.not_true,Ao]
  cases (((D9 r f).length:Int)==(0:Int))with
  |true=>exact nope 1 zq7
  |false=>
   simp only[Ao]
   cases hne:(f.2.2.2.2.2.2.2.1 != e.1)with
   |true=>exact nope 1 zq7
   |false=>
    simp only[Ao]
    cases hm:Kj (e.2.2.2.1,e.2.2.2.2.1,()) f.2.2.2.2.2.2.2.2.1 with
    |false=>exact nope 3 zq7
    |true=>
     simp only[cond_true,Bool.not_true,Ao,Ac]
     cases b with
     |false=>exact nope 2 zq7
     |true=>
      simp only[Bool.not_true,Ao]
      refine⟨_,p,0,rfl,rfl,?_,u3,fun h=>(h rfl).elim,fun _=>⟨ho,rfl,hm,by simpa using hne,(u4 rfl).2⟩⟩
      simp only[Gv]at hw
      simp only[Cu];omega
theorem Ags {l:List YB}:wfB l↔ ∀x∈l,0<=x.1/\x.1<=255:=by
 constructor
 .intro h x hx
  obtain⟨i,hi⟩:=List.getElem?_of_mem hx
  exact h i x hi
 .intro h i x hx
  exact h x (List.mem_of_getElem? hx)
theorem Hb:wfB []:=Ags.2 zq3
theorem Btv {a:List YB} {n:Nat} (ha:wfB a):wfB (a.take n):=Ags.2 fun x hx=>Ags.1 ha x (List.mem_of_mem_take hx)
theorem Bic {a:List YB} {n:Nat} (ha:wfB a):wfB (a.drop n):=Ags.2 fun x hx=>Ags.1 ha x (List.mem_of_mem_drop hx)
theorem u8_in (n:Int):0<=IntKind.u8.wrap n/\IntKind.u8.wrap n<=255:=by rw[IntKind.wrap_u8];omega
theorem Bvr (k n p:List YB):wfB (mix k n p):=by
 unfold mix
 split
 .refine Ags.2 fun x hx=>?_
  unfold Ai9 at hx
  obtain⟨j,_,rfl⟩:=List.mem_map.1 hx
  exact u8_in _
 .exact Hb
theorem Bw6 (sn:List YB) (ep seq kind:Int) (p t:List YB) (hk:inR kind 4 8=true) (ht:t.length=16):Bu (kind,0,[],sn,0,[],[],ep,seq,p,t,())=(((sn.length:Int)==12) && (inR ep 0 4294967295 && (inR seq 0 281474976710655 && Jo kind (p.length:Int)))):=by
 unfold Bu
 simp only[hk,cond_true]
 simp[ht]
theorem Bmo {k n:Int} (h:Jo k n=true):n<=40:=by
 unfold Jo at h
 cases h4:(k==4)<;>cases h5:(k==5)<;>cases h6:(k==6)<;>simp[h4,h5,h6]at h<;>omega
theorem Bmp {k n p:List YB} (h1:p.length<=200) (h2:n.length<=100) (h3:k.length<=1048576):(mix k n p).length=p.length:=by
 unfold mix
 rw[if_pos ⟨h1,h2,h3⟩,Auh]
theorem Bvs {k m:List YB} (h1:k.length<=1048576) (h2:m.length<=1048512):(Ur k m).length=16:=by
 unfold Ur
 rw[List.length_take,Rc k m h1 h2];rfl
theorem Ab3 {k:List YB} {r:Int} {sn:List YB} {ep seq kind:Int} {p:List YB} (h:Nc k r sn ep seq kind p=true):Bu (Gz k r sn ep seq kind p).1=true:=by
 have h':=h
 unfold Nc H1 at h'
 simp only[Bool.and_eq_true]at h'
 obtain⟨a1,⟨a2,a3,a4,a5⟩,a6,a7⟩:=h'
 have hk:k.length=32:=by simp at a1;omega
 have hsn:sn.length=12:=by simp at a3;omega
 have hp:=Bmo a7
 have hl:(Et r sn ep seq).length<=23:=by rw[Pb];cases H1 r sn ep seq<;>simp
 have hm:(mix k (Et r sn ep seq) p).length=p.length:=Bmp zq0 zq0 zq0
 have hti:=Adc r (kind,0,[],sn,0,[],[],ep,seq,mix k (Et r sn ep seq) p,Qt,())
 have ht:(Ur k (D9 r (kind,0,[],sn,0,[],[],ep,seq,mix k (Et r sn ep seq) p,Qt,()))).length=16:=by
  refine Bvs zq0 ?_
  refine Nat.le_trans hti ?_
  simp only[Av,List.length_nil,hsn,hm,Qt,List.length_replicate];omega
 unfold Gz
 rw[h]
 simp only[cond_true]
 rw[Bw6 _ _ _ _ _ _ a6 ht,hm,a3,a4,a5,a7];rfl
theorem Agt {w:Dg} (h:I6 w.2.1) {n:Int} (h0:0<=n):Afd w n=Ab2 w.2.1 (n%1024).toNat:=by
 obtain⟨m,rfl⟩:=Int.eq_ofNat_of_zero_le h0
 have hlt:m%1024/32<w.2.1.length:=by rw[h.1];omega
 have hx:=List.getElem?_eq_getElem hlt
 have hw:=h.2 _ _ hx
 obtain⟨k,hk⟩:=Int.eq_ofNat_of_zero_le hw.1
 have hid:idx w.2.1 ((m:Int)%1024/32)=some w.2.1[m%1024/32]:=by
  rw[show(m:Int)%1024/32=((m%1024/32:Nat):Int) by omega];exact B8 hx
 unfold Afd Ab2
 rw[hid,show((m:Int)%1024).toNat=m%1024 by omega,hx]
 show(IntKind.i64.wrap _==1)=Nat.testBit (Int.toNat (w.2.1[m%1024/32]).1) _
 rw[hk,show((k:Int)).toNat=k by omega,show((m:Int)%32).toNat=m%32 by omega,show min (m%32) IntKind.i64.bits=m%32 from Nat.min_eq_left (by show m%32<=64;omega),show m%1024%32=m%32 by omega]
 have e1:Int.fdiv (k:Int) ((2:Int)^(m%32))=((k/2^(m%32):Nat):Int):=by
  rw[show((2:Int)^(m%32))=((2^(m%32):Nat):Int) by push_cast;rfl,Int.fdiv_eq_ediv_of_nonneg _ (Int.natCast_nonneg _)];rfl
 have hk32:k<4294967296:=by omega
 have hd:k/2^(m%32)<=k:=Nat.div_le_self _ _
 rw[e1,Pc]
 have e2:BitVec.ofInt IntKind.i64.bits (1:Int)=BitVec.ofNat 64 1:=Pc 1
 rw[e2]
 have e3:(BitVec.ofNat 64 (k/2^(m%32)) &&& BitVec.ofNat 64 1).toNat=k/2^(m%32)%2:=by
  rw[BitVec.toNat_and,BitVec.toNat_ofNat,BitVec.toNat_ofNat,Nat.mod_eq_of_lt (a:=k/2^(m%32)) (b:=2^64) (Nat.lt_of_le_of_lt hd zq0),show(1:Nat)%2^64=1 from rfl,Nat.and_one_is_mod]
 have e4:IntKind.i64.wrap (((BitVec.ofNat 64 (k/2^(m%32)) &&& BitVec.ofNat 64 1).toNat:Nat):Int)=((k/2^(m%32)%2:Nat):Int):=by
  rw[e3];exact w64 zq0
 show(IntKind.i64.wrap (((BitVec.ofNat 64 (k/2^(m%32)) &&& BitVec.ofNat 64 1).toNat:Nat):Int)==1)=_
 rw[e4,Nat.testBit_eq_decide_div_mod_eq]
 by_cases hb:k/2^(m%32)%2=1
 .simp[hb]
 .have:k/2^(m%32)%2=0:=by omega
  simp[this]
theorem Bru {w:Dg} {n:Int} (h:Kj w n=true):N3 (L5 w n)=true:=by
 unfold Kj at h
 simp only[Bool.and_eq_true]at h
 obtain⟨h1,h2,h3⟩:=Ad5 h.1
 have hn:=Bx.1 h.2.1
 obtain⟨c1,c2⟩:=Xd h1 (s:=w.1+1) zq0 (Anu w.1 n)
 obtain⟨t1,t2⟩:=A1d (f:=Ajb) (g:=fun x y=>x || y) (fun hw hb=>Bbf hw hb) (fun x=>by simp) c1 hn.1
 have ho:=h.1
 unfold N3 at ho
 simp only[Bool.and_eq_true]at ho
 have htop:(L5 w n).1=if w.1<n then n else w.1:=rfl
 have hbits:(L5 w n).2.1=Pw Ajb (Nx w.2.1 (w.1+1) (Anu w.1 n)) n:=rfl
 have hwin:I6 (L5 w n).2.1:=t1
 have htail:=Anv.1 ho.2.2.1
 unfold N3
 simp only[Bool.and_eq_true]
 refine⟨Bx.2 (by rw[htop];split<;>omega),⟨Age.2 fun q x hx=>by have:=hwin.2 q x hx;omega,by rw[hwin.1];rfl⟩,?_,?_⟩
 .refine Anv.2 fun i hi=>?_
  rw[htop]at hi ⊢
  have hp:(0:Int)<=(if w.1<n then n else w.1)+1+(i:Nat):=by split<;>omega
  rw[Agt hwin hp,hbits]
  generalize hq:((if w.1<n then n else w.1)+1+(i:Nat))=p at hp
  have hp2:p<=1023:=by rw[<-hq];split at hi<;>(split<;>omega)
  have hp3:w.1<p/\n<p:=by rw[<-hq];split<;>omega
  rw[t2 _ zq0,c2 _ zq0]
  have hne:decide ((((p%1024).toNat:Nat):Int)=n%1024)=false:=decide_eq_false zq0
  have hold:=htail (p-w.1-1).toNat zq0
  rw[show w.1+1+(((p-w.1-1).toNat:Nat):Int)=p by omega,Agt h1 hp]at hold
  rw[hne,hold];rfl
 .rw[htop]
  by_cases hlt:w.1<n
  .rw[if_pos hlt,Agt hwin hn.1,hbits,t2 _ zq0]
   rw[show decide ((((n%1024).toNat:Nat):Int)=n%1024)=true from decide_eq_true zq0]
   simp
  .rw[if_neg hlt,Agt hwin zq0,hbits,t2 _ zq0,c2 _ zq0]
   have hm:Anu w.1 n=0:=by unfold Anu;rw[if_pos zq0]
   have hold:=ho.2.2.2
   rw[show(w.1== -1)=false by simp;omega,Bool.false_or,Agt h1 zq0]at hold
   rw[hold,hm]
   simp
theorem Az5 (e:YEp) (r:YI) (f:Ap) (h:Cu e<=4294967296) (h2:Av f<=536870912):Jd e r f=M9 e r f:=by
 obtain⟨r,⟨⟩⟩:=r
 obtain⟨e',p,z,k1,k2,_⟩:=Akx e r f h h2
 rw[k1,k2]
theorem Fl {e:YEp} (h:Hu e=true):(0<=e.1/\e.1<=4294967295)/\e.2.1.length=32/\e.2.2.2.2.1.length=32:=by
 unfold Hu N3 at h
 simp only[Bool.and_eq_true,Bx]at h
 refine⟨h.1,by have:=h.2.1;simp at this;omega,by have:=h.2.2.2.2.1.2;simp at this;omega⟩
theorem Ir {c:Au} (h:Cz c=true):(c.1=0\/c.1=1)/\c.2.1.length=12/\Hu (N0 c)=true/\Ps c=true/\(c.2.2.2.2.2.2.2.2.2.2.2.2.2.2.1.length=0\/(c.1=0/\c.2.2.2.2.2.2.2.2.2.2.2.2.2.2.1.length=32/\c.2.2.1<4294967295)):=by
 unfold Cz at h
 simp only[Bool.not_not,Bool.and_eq_true,Bool.or_eq_true,beq_iff_eq,decide_eq_true_eq]at h
 refine⟨h.1,by omega,h.2.2.1,h.2.2.2.1,?_⟩
 rcases h.2.2.2.2 with q|q
 .left;have:=q;simp only[Na]at this;omega
 .right;have:=q;simp only[Na]at this;exact⟨this.1,by omega,this.2.2⟩
theorem Anw {c:Au} (h:Ps c=true) (hh:Aaj c=true) (hN:0<=c.2.2.1/\c.2.2.1<=4294967295):Hu (Aah c)=true/\c.2.2.2.2.2.2.2.1=c.2.2.1-1/\((0<=Aby c/\Aby c<=1000005)\/(Aby c= -1/\c.1=1)):=by
 unfold Ps at h
 rw[hh]at h
 simp only[Bool.not_true,cond_false,Bool.not_not,Bool.and_eq_true,Bool.or_eq_true,Bool.not_eq_true',bne_eq_false_iff_eq,Bx,beq_iff_eq]at h
 refine⟨h.1,?_,h.2.2⟩
 have:=h.2.1
 have this:c.2.2.2.2.2.2.2.1=IntKind.i64.wrap (c.2.2.1-1):=this
 rw[w64 zq0]at this
 exact this
theorem Blj (c:Au) (n:YI) (f:Ap) (h:A9 c<=67000000) (h2:Av f<=67108864) (w1:wfB f.2.2.2.1) (w2:wfB c.2.1):Ou c n f=L4 c n f:=by
 have hc:=h
 simp only[A9]at hc
 have hsn:f.2.2.2.1.length<=Av f:=by simp only[Av];omega
 obtain⟨d,d1,d2,d3⟩:=Bmn f.2.2.2.1 c.2.1 zq0
 have d3:=d3 w1 w2
 unfold Ou Aib L4 Zx
 simp only[Af,Ah,Aa]
 rw[Uh c zq0,S5 c zq0,Wq c Ba9 Bba,S3 c,Cm,Cy,Ws,Wt,Jq,Jp,S1,d1]
 simp only[Ac]
 cases ho:Cz c with
 |false=>rfl
 |true=>
 cases inR n.1 0 1000000 with
 |false=>rfl
 |true=>
 simp only[Bool.not_true,Ao]
 cases inR f.1 4 8 with
 |false=>cases Bu f<;>rfl
 |true=>
 cases Bu f with
 |false=>rfl
 |true=>
 simp only[Bool.not_true,Ao]
 obtain⟨f1,f2,f3,f4,f5⟩:=Ir ho
 obtain⟨f6,f7,f8⟩:=Fl f3
 have f6:0<=c.2.2.1/\c.2.2.1<=4294967295:=f6
 have hwN:IntKind.i64.wrap (c.2.2.1+(1:Int))=c.2.2.1+1:=w64 zq0
 have hE1:=Az5 (c.2.2.1,c.2.2.2.1,c.2.2.2.2.1,c.2.2.2.2.2.1,c.2.2.2.2.2.2.1,()) (IntKind.i64.wrap ((1:Int)-c.1),()) f (by simp only[Cu];omega) zq0
 have hE2:=Az5 (c.2.2.2.2.2.2.2.1,c.2.2.2.2.2.2.2.2.1,c.2.2.2.2.2.2.2.2.2.1,c.2.2.2.2.2.2.2.2.2.2.1,c.2.2.2.2.2.2.2.2.2.2.2.1,()) (IntKind.i64.wrap ((1:Int)-c.1),()) f (by simp only[Cu];omega) zq0
 obtain⟨en,n1,n2,n3⟩:=Auq (IntKind.i64.wrap (c.2.2.1+(1:Int)),()) (c.2.2.2.2.2.2.2.2.2.2.2.2.2.2.1,())
 have hE3:=Az5 en (IntKind.i64.wrap ((1:Int)-c.1),()) f zq0 zq0
 by_cases hs:f.2.2.2.1=c.2.1
 case neg=>
  have e1:(d != (0:Int))=true:=by simp;exact fun e=>hs (d3.1 e)
  have e2:Cv f.2.2.2.1 c.2.1=false:=by
   cases hh:Cv f.2.2.2.1 c.2.1 with
   |false=>rfl
   |true=>exact(hs (Bh4 w1 w2 hh)).elim
  rw[e1,e2]
  cases c.2.2.2.2.2.2.2.2.2.2.2.2.1<;>cases decide ((c.2.2.2.2.2.2.2.2.2.2.2.2.2.2.1.length:Int)>(0:Int))<;>rfl
 case pos=>
 have e1:(d != (0:Int))=false:=by simp;exact d3.2 hs
 have e2:Cv f.2.2.2.1 c.2.1=true:=by rw[hs];exact Nb _
 rw[e1,e2]
 simp only[Bool.not_true,Ao]
 have main (r:YEp×YBs×YI):(Ua r c f c n).val=br (r.2.2.1 != (0:Int)) (some (c,(([]:List YB),()),r.2.2)) ((Lk f c c r n).val):=rfl
 have main2 (r:YEp×YBs×YI):(Aac r c f c n).val=br (r.2.2.1 != (0:Int)) (some (c,(([]:List YB),()),r.2.2)) ((Rk f c c r n).val):=rfl
 have hA:c.2.2.2.2.2.2.2.2.2.2.2.2.1=true->c.2.2.2.2.2.2.2.1=c.2.2.1-1:=fun hh=>(Anw f4 hh f6).2.1
 cases hold:c.2.2.2.2.2.2.2.2.2.2.2.2.1 with
 |true=>
  have hoN:=hA hold
  by_cases hb:f.2.2.2.2.2.2.2.1=c.2.2.1
  .have q1:(f.2.2.2.2.2.2.2.1==c.2.2.1)=true:=by simpa using hb
   have q2:(f.2.2.2.2.2.2.2.1==c.2.2.2.2.2.2.2.1)=false:=by simp;omega
   have q3:(f.2.2.2.2.2.2.2.1==IntKind.i64.wrap (c.2.2.1+(1:Int)))=false:=by rw[hwN];simp;omega
   simp only[q1,Bool.not_true,Ao,A6]
   rw[<-hE1]
   cases hnx:decide ((c.2.2.2.2.2.2.2.2.2.2.2.2.2.2.1.length:Int)>(0:Int))with
   |true=>
    simp only[A6]
    unfold J8
    simp only[Af,q2,Ao]
    unfold J7
    simp only[Af,q2,Ao]
    unfold Aab
    simp only[Af,q3,Ao]
    unfold Ri
    simp only[Ah,main]
    unfold Lk
    simp only[Af,q1,A6]
    unfold Ot
    simp only[Af,hold,A6]
    unfold Abr
    simp only[Af,Aa,hold]
   |false=>
    simp only[Ao]
    unfold Rj
    simp only[Af,q2,Ao]
    unfold M8
    simp only[Af,q2,Ao]
    unfold Ri
    simp only[Ah,main]
    unfold Lk
    simp only[Af,q1,A6]
    unfold Ot
    simp only[Af,hold,A6]
    unfold Abr
    simp only[Af,Aa,hold]
  .have q1:(f.2.2.2.2.2.2.2.1==c.2.2.1)=false:=by simpa using hb
   simp only[q1,Bool.not_false,Ao,A6]
   by_cases ho2:f.2.2.2.2.2.2.2.1=c.2.2.2.2.2.2.2.1
   .have q2:(f.2.2.2.2.2.2.2.1==c.2.2.2.2.2.2.2.1)=true:=by simpa using ho2
    have q3:(f.2.2.2.2.2.2.2.1==IntKind.i64.wrap (c.2.2.1+(1:Int)))=false:=by rw[hwN];simp;omega
    simp only[q2,Bool.not_true,Ao,A6]
    rw[<-hE2]
    have fin:(Ub c f c n).val=ob (Jd (c.2.2.2.2.2.2.2.1,c.2.2.2.2.2.2.2.2.1,c.2.2.2.2.2.2.2.2.2.1,c.2.2.2.2.2.2.2.2.2.2.1,c.2.2.2.2.2.2.2.2.2.2.2.1,()) (IntKind.i64.wrap ((1:Int)-c.1),()) f) fun r=>br (r.2.2.1 != (0:Int)) (some (c,(([]:List YB),()),r.2.2)) (some ((c.1,c.2.1,c.2.2.1,c.2.2.2.1,c.2.2.2.2.1,c.2.2.2.2.2.1,c.2.2.2.2.2.2.1,r.1.1,r.1.2.1,r.1.2.2.1,r.1.2.2.2.1,r.1.2.2.2.2.1,true,c.2.2.2.2.2.2.2.2.2.2.2.2.2.1,c.2.2.2.2.2.2.2.2.2.2.2.2.2.2.1,()),r.2.1,((0:Int),()))):=by
     unfold Ub
     simp only[Ah,main]
     unfold Lk
     simp only[Af,q1,Ao]
     unfold Abs
     simp only[Af,q2,A6,Aa,hold]
    cases hnx:decide ((c.2.2.2.2.2.2.2.2.2.2.2.2.2.2.1.length:Int)>(0:Int))with
    |true=>
     simp only[A6]
     unfold J8
     simp only[Af,q2,A6]
     unfold Ako
     simp only[Af]
     unfold Akn
     simp only[Af,Aa]
     unfold J7
     simp only[Af,q2,A6]
     unfold Ao9
     simp only[Af,q3,Ao,fin]
    |false=>
     simp only[Ao]
     unfold Rj
     simp only[Af,q2,A6]
     unfold Akq
     simp only[Af]
     unfold Akp
     simp only[Af,Aa]
     unfold M8
     simp only[Af,q2,A6,fin]
   .have q2:(f.2.2.2.2.2.2.2.1==c.2.2.2.2.2.2.2.1)=false:=by simpa using ho2
    simp only[q2,Bool.not_false,Ao,A6]
    cases hnx:decide ((c.2.2.2.2.2.2.2.2.2.2.2.2.2.2.1.length:Int)>(0:Int))with
    |false=>rfl
    |true=>
     simp only[A6]
     cases q3:(f.2.2.2.2.2.2.2.1==IntKind.i64.wrap (c.2.2.1+(1:Int)))with
     |false=>rfl
     |true=>
      simp only[Bool.not_true,Ao,A6]
      rw[n2]
      simp only[Ac]
      rw[<-hE3]
      unfold J8
      simp only[Af,q2,Ao]
      unfold J7
      simp only[Af,q2,Ao]
      unfold Aab
      simp only[Af,q3,A6]
      unfold Abt
      simp only[Ah]
      rw[n1]
      simp only[Ac]
      unfold Ao8
      simp only[Ah,main]
      unfold Lk
      simp only[Af,q1,Ao]
      unfold Abs
      simp only[Af,q2,Ao,Aa]
 |false=>
  by_cases hb:f.2.2.2.2.2.2.2.1=c.2.2.1
  .have q1:(f.2.2.2.2.2.2.2.1==c.2.2.1)=true:=by simpa using hb
   have q3:(f.2.2.2.2.2.2.2.1==IntKind.i64.wrap (c.2.2.1+(1:Int)))=false:=by rw[hwN];simp;omega
   simp only[q1,Bool.not_true,Ao,A6]
   rw[<-hE1]
   have fin:(Rl c f c n).val=ob (Jd (c.2.2.1,c.2.2.2.1,c.2.2.2.2.1,c.2.2.2.2.2.1,c.2.2.2.2.2.2.1,()) (IntKind.i64.wrap ((1:Int)-c.1),()) f) fun r=>br (r.2.2.1 != (0:Int)) (some (c,(([]:List YB),()),r.2.2)) (some ((c.1,c.2.1,r.1.1,r.1.2.1,r.1.2.2.1,r.1.2.2.2.1,r.1.2.2.2.2.1,c.2.2.2.2.2.2.2.1,c.2.2.2.2.2.2.2.2.1,c.2.2.2.2.2.2.2.2.2.1,c.2.2.2.2.2.2.2.2.2.2.1,c.2.2.2.2.2.2.2.2.2.2.2.1,false,c.2.2.2.2.2.2.2.2.2.2.2.2.2.1,c.2.2.2.2.2.2.2.2.2.2.2.2.2.2.1,()),r.2.1,((0:Int),()))):=by
    unfold Rl
    simp only[Ah,main2]
    unfold Rk
    simp only[Af,q1,A6]
    unfold Ot
    simp only[Af,hold,Ao,Aa]
   cases hnx:decide ((c.2.2.2.2.2.2.2.2.2.2.2.2.2.2.1.length:Int)>(0:Int))with
   |true=>
    simp only[A6]
    unfold Rm
    simp only[Af,q3,Ao,fin]
   |false=>
    simp only[Ao,fin]
  .have q1:(f.2.2.2.2.2.2.2.1==c.2.2.1)=false:=by simpa using hb
   simp only[q1,Bool.not_false,Ao,A6]
   cases hnx:decide ((c.2.2.2.2.2.2.2.2.2.2.2.2.2.2.1.length:Int)>(0:Int))with
   |false=>rfl
   |true=>
    simp only[A6]
    cases q3:(f.2.2.2.2.2.2.2.1==IntKind.i64.wrap (c.2.2.1+(1:Int)))with
    |false=>rfl
    |true=>
     simp only[Bool.not_true,Ao,A6]
     rw[n2]
     simp only[Ac]
     rw[<-hE3]
     unfold Rm
     simp only[Af,q3,A6]
     unfold Aks
     simp only[Ah]
     rw[n1]
     simp only[Ac]
     unfold Akr
     simp only[Ah,main2]
     unfold Rk
     simp only[Af,q1,Ao,Aa]
def Apq (c:Au) (e:YEp):Au:=(c.1,c.2.1,c.2.2.1,c.2.2.2.1,c.2.2.2.2.1,c.2.2.2.2.2.1,c.2.2.2.2.2.2.1,e.1,e.2.1,e.2.2.1,e.2.2.2.1,e.2.2.2.2.1,c.2.2.2.2.2.2.2.2.2.2.2.2.1,c.2.2.2.2.2.2.2.2.2.2.2.2.2.1,c.2.2.2.2.2.2.2.2.2.2.2.2.2.2.1,())
def Ad6 (c:Au) (u:Int):Au:=(c.1,c.2.1,c.2.2.1,c.2.2.2.1,c.2.2.2.2.1,c.2.2.2.2.2.1,c.2.2.2.2.2.2.1,c.2.2.2.2.2.2.2.1,c.2.2.2.2.2.2.2.2.1,c.2.2.2.2.2.2.2.2.2.1,c.2.2.2.2.2.2.2.2.2.2.1,c.2.2.2.2.2.2.2.2.2.2.2.1,c.2.2.2.2.2.2.2.2.2.2.2.2.1,u,c.2.2.2.2.2.2.2.2.2.2.2.2.2.2.1,())
def moved (c:Au) (e:YEp) (u:Int):Au:=(c.1,c.2.1,e.1,e.2.1,e.2.2.1,e.2.2.2.1,e.2.2.2.2.1,c.2.2.1,c.2.2.2.1,c.2.2.2.2.1,c.2.2.2.2.2.1,c.2.2.2.2.2.2.1,true,u,([]:List YB),())
def Btw (e:YEp) (n:Int):YEp:=(e.1,e.2.1,e.2.2.1,(L5 (e.2.2.2.1,e.2.2.2.2.1,()) n).1,(L5 (e.2.2.2.1,e.2.2.2.2.1,()) n).2.1,())
theorem Bvt {e:YEp} {n:Int} (h:Hu e=true) (hm:Kj (e.2.2.2.1,e.2.2.2.2.1,()) n=true):Hu (Btw e n)=true:=by
 have hw:=Bru hm
 unfold Hu at h ⊢
 simp only[Bool.and_eq_true]at h ⊢
 exact⟨h.1,h.2.1,h.2.2.1,hw⟩
theorem EpO.ok {e:YEp} {r:Int} {f:Ap} {e':YEp} {p:List YB} {z:Int} (h:EpO e r f e' p z) (hz:z=0):Hu e=true/\e'=Btw e f.2.2.2.2.2.2.2.2.1/\Hu e'=true/\f.2.2.2.2.2.2.2.1=e.1/\p=mix e.2.1 (Et r f.2.2.2.1 f.2.2.2.2.2.2.2.1 f.2.2.2.2.2.2.2.2.1) f.2.2.2.2.2.2.2.2.2.1:=by
 obtain⟨h1,h2,h3,h4⟩:=h
 obtain⟨k1,k2,k3,k4,k5⟩:=h4 hz
 have k2':e'=Btw e f.2.2.2.2.2.2.2.2.1:=k2
 exact⟨k1,k2',by rw[k2'];exact Bvt k1 k3,k4,k5⟩
theorem Ui {f:Ap} (h:Bu f=true) (hs:inR f.1 4 8=true):f.2.2.2.1.length=12/\(0<=f.2.2.2.2.2.2.2.1/\f.2.2.2.2.2.2.2.1<=4294967295)/\(0<=f.2.2.2.2.2.2.2.2.1/\f.2.2.2.2.2.2.2.2.1<=281474976710655)/\Jo f.1 (f.2.2.2.2.2.2.2.2.2.1.length:Int)=true/\f.2.2.2.2.2.2.2.2.2.1.length<=40:=by
 unfold Bu at h
 rw[hs]at h
 simp only[cond_true,Bool.and_eq_true,Bx,beq_iff_eq]at h
 have hb:=h.2.2.2.2.2.2.2.2.1
 have:=Bmo hb
 exact⟨by omega,h.2.2.2.2.2.2.1,h.2.2.2.2.2.2.2.1,hb,by omega⟩
def ChO (c:Au) (n:Int) (f:Ap) (c':Au) (p:List YB) (z:Int):Prop:=
 A9 c'<=A9 c+200/\p.length<=Av f/\(z≠0->c'=c/\p=[])/\
 (z=0->Cz c=true/\Cz c'=true/\(0<=n/\n<=1000000)/\Bu f=true/\inR f.1 4 8=true/\f.2.2.2.1=c.2.1/\c'.1=c.1/\c'.2.1=c.2.1/\
  p.length=f.2.2.2.2.2.2.2.2.2.1.length/\wfB p/\
  ((c'.2.2.1=c.2.2.1/\Na c'=Na c/\c'.2.2.2.2.1=c.2.2.2.2.1/\c'.2.2.2.1=c.2.2.2.1)\/(c'.2.2.1=c.2.2.1+1/\Na c'=[]/\c'.2.2.2.2.1=0/\f.2.2.2.2.2.2.2.1=c.2.2.1+1/\(Na c).length=32)))
theorem Bid {c:Au} {u:Int} (h:Cz c=true) (hh:Aaj c=true) (hu:0<=u/\u<=1000005):Cz (Ad6 c u)=true:=by
 unfold Cz at h ⊢
 simp only[Bool.not_not,Bool.and_eq_true]at h ⊢
 refine⟨h.1,h.2.1,h.2.2.1,?_,h.2.2.2.2⟩
 have ho:=h.2.2.2.1
 unfold Ps at ho ⊢
 rw[hh]at ho
 have hh':Aaj (Ad6 c u)=true:=hh
 rw[hh']
 simp only[Bool.not_true,cond_false,Bool.not_not,Bool.and_eq_true,Bool.or_eq_true]at ho ⊢
 exact⟨ho.1,ho.2.1,.inl (Bx.2 hu)⟩
theorem Bor {c:Au} {e:YEp} (h:Cz c=true) (hh:Aaj c=true) (he:Hu e=true) (h1:e.1=(Aah c).1):Cz (Apq c e)=true:=by
 unfold Cz at h ⊢
 simp only[Bool.not_not,Bool.and_eq_true]at h ⊢
 refine⟨h.1,h.2.1,h.2.2.1,?_,h.2.2.2.2⟩
 have ho:=h.2.2.2.1
 unfold Ps at ho ⊢
 rw[hh]at ho
 have hh':Aaj (Apq c e)=true:=hh
 rw[hh']
 simp only[Bool.not_true,cond_false,Bool.not_not,Bool.and_eq_true,Bool.or_eq_true]at ho ⊢
 refine⟨he,?_,ho.2.2⟩
 have:=ho.2.1
 rw[<-h1]at this
 exact this
theorem Btx {c:Au} {e:YEp} {u:Int} (h:Cz c=true) (he:Hu e=true) (h1:e.1=c.2.2.1+1) (hu:0<=u/\u<=1000005):Cz (moved c e u)=true:=by
 obtain⟨f1,f2,f3,f4,f5⟩:=Ir h
 have f6:=(Fl f3).1
 have f7:=(Fl he).1
 unfold Cz at h ⊢
 simp only[Bool.not_not,Bool.and_eq_true]at h ⊢
 refine⟨h.1,h.2.1,he,?_,?_⟩
 .unfold Ps
  have hh:Aaj (moved c e u)=true:=rfl
  rw[hh]
  simp only[Bool.not_true,cond_false,Bool.not_not,Bool.and_eq_true,Bool.or_eq_true,Bool.not_eq_true',bne_eq_false_iff_eq]
  refine⟨f3,?_,.inl (Bx.2 hu)⟩
  show c.2.2.1=IntKind.i64.wrap (e.1-1)
  have f6':0<=c.2.2.1/\c.2.2.1<=4294967295:=f6
  rw[w64 zq0];omega
 .show(((([]:List YB).length:Int)==0) || _)=true
  rfl
theorem Bos (c:Au) (n:YI) (f:Ap) (h:A9 c<=67000000) (h2:Av f<=67108864) (w1:wfB f.2.2.2.1) (w2:wfB c.2.1):
  ∃c' p z,L4 c n f=some (c',(p,()),(z,()))/\ChO c n.1 f c' p z:=by
 have hc:=h
 simp only[A9]at hc
 unfold L4 Zx
 simp only[Af,Ah,Aa]
 rw[S5 c zq0,S3 c,Cy,Wt,Jp,S1]
 simp only[Ac]
 have nope: ∀z:Int,z≠0-> ∃c' p z',some (c,(([]:List YB),()),(z,()))=some (c',(p,()),(z',()))/\ChO c n.1 f c' p z':=fun z hz=>
  ⟨c,[],z,rfl,by omega,by simp,fun _=>⟨rfl,rfl⟩,fun h=>(hz h).elim⟩
 cases ho:Cz c with
 |false=>exact nope 1 zq7
 |true=>
 cases hn:inR n.1 0 1000000 with
 |false=>exact nope 1 zq7
 |true=>
 simp only[Bool.not_true,Ao]
 cases hfo:Bu f with
 |false=>exact nope 1 zq7
 |true=>
 simp only[Bool.not_true,Ao]
 cases hse:inR f.1 4 8 with
 |false=>exact nope 1 zq7
 |true=>
 simp only[Bool.not_true,Ao]
 have hn':=Bx.1 hn
 obtain⟨b1,b2,b3,b4,b5⟩:=Ui hfo hse
 obtain⟨f1,f2,f3,f4,f5⟩:=Ir ho
 obtain⟨f6,f7,f8⟩:=Fl f3
 have f6:0<=c.2.2.1/\c.2.2.1<=4294967295:=f6
 have hwN:IntKind.i64.wrap (c.2.2.1+(1:Int))=c.2.2.1+1:=w64 zq0
 have hw5:IntKind.i64.wrap (n.1+(5:Int))=n.1+5:=w64 zq0
 have hr:IntKind.i64.wrap ((1:Int)-c.1)=1-c.1:=w64 zq0
 obtain⟨e1,p1,z1,_,s1,E1⟩:=Akx (c.2.2.1,c.2.2.2.1,c.2.2.2.2.1,c.2.2.2.2.2.1,c.2.2.2.2.2.2.1,()) (1-c.1) f (by simp only[Cu];omega) zq0
 obtain⟨e2,p2,z2,_,s2,E2⟩:=Akx (c.2.2.2.2.2.2.2.1,c.2.2.2.2.2.2.2.2.1,c.2.2.2.2.2.2.2.2.2.1,c.2.2.2.2.2.2.2.2.2.2.1,c.2.2.2.2.2.2.2.2.2.2.2.1,()) (1-c.1) f (by simp only[Cu];omega) zq0
 obtain⟨en,n1,n2,n3⟩:=Auq (IntKind.i64.wrap (c.2.2.1+(1:Int)),()) (c.2.2.2.2.2.2.2.2.2.2.2.2.2.2.1,())
 obtain⟨e3,p3,z3,_,s3,E3⟩:=Akx en (1-c.1) f zq0 zq0
 rw[hr,s1,s2,n2]
 simp only[Ac]
 rw[s3]
 simp only[Ac]
 cases hs:Cv f.2.2.2.1 c.2.1 with
 |false=>exact nope 8 zq7
 |true=>
 have hsn:=Bh4 w1 w2 hs
 simp only[Bool.not_true,Ao]
 have pl: ∀ {k:List YB} {p:List YB},k.length=32->p=mix k (Et (1-c.1) f.2.2.2.1 f.2.2.2.2.2.2.2.1 f.2.2.2.2.2.2.2.2.1) f.2.2.2.2.2.2.2.2.2.1->p.length=f.2.2.2.2.2.2.2.2.2.1.length/\wfB p:=fun {k p} hk hp=>by
  have hl:(Et (1-c.1) f.2.2.2.1 f.2.2.2.2.2.2.2.1 f.2.2.2.2.2.2.2.2.1).length<=23:=by
   rw[Pb];cases H1 (1-c.1) f.2.2.2.1 f.2.2.2.2.2.2.2.1 f.2.2.2.2.2.2.2.2.1<;>simp
  rw[hp]
  exact⟨Bmp zq0 zq0 zq0,Bvr _ _ _⟩
 have hnE1:Cu e1=Cu (N0 c):=E1.1
 have hnE2:Cu e2=Cu (Aah c):=E2.1
 simp only[Cu,N0]at hnE1
 simp only[Cu,Aah]at hnE2
 have hpn: ∀p:List YB,p.length=f.2.2.2.2.2.2.2.2.2.1.length->p.length<=Av f:=fun p h=>by simp only[Av];omega
 cases q1:(f.2.2.2.2.2.2.2.1==c.2.2.1)with
 |true=>
  simp only[A6]
  by_cases hz:z1=0
  .subst hz
   simp only[show((0:Int) != (0:Int))=false from rfl,Ao]
   obtain⟨o1,o2,o3,o4,o5⟩:=E1.ok rfl
   obtain⟨g1,g2⟩:=pl f7 o5
   have hN:e1.1=c.2.2.1:=by rw[o2];rfl
   have hcur:=A82 ho o3 hN
   have hk:e1.2.1=c.2.2.2.1:=by rw[o2];rfl
   have hq:e1.2.2.1=c.2.2.2.2.1:=by rw[o2];rfl
   have plain:ChO c n.1 f (Hc c e1) p1 0:=⟨by simp only[A9,Hc];omega,hpn _ g1,fun h=>(h rfl).elim,fun _=>⟨ho,hcur,hn',hfo,hse,hsn,rfl,rfl,g1,g2,.inl ⟨hN,rfl,hq,hk⟩⟩⟩
   cases hold:c.2.2.2.2.2.2.2.2.2.2.2.2.1 with
   |true=>
    simp only[A6]
    cases hu:(c.2.2.2.2.2.2.2.2.2.2.2.2.2.1==(-1:Int))with
    |true=>
     rw[A6,hw5]
     have hw:=Bid (c:=Hc c e1) (u:=n.1+5) hcur hold zq0
     refine⟨_,p1,0,rfl,?_⟩
     rw[show((c.1,c.2.1,e1.1,e1.2.1,e1.2.2.1,e1.2.2.2.1,e1.2.2.2.2.1,c.2.2.2.2.2.2.2.1,c.2.2.2.2.2.2.2.2.1,c.2.2.2.2.2.2.2.2.2.1,c.2.2.2.2.2.2.2.2.2.2.1,c.2.2.2.2.2.2.2.2.2.2.2.1,true,n.1+5,c.2.2.2.2.2.2.2.2.2.2.2.2.2.2.1,()):Au)=Ad6 (Hc c e1) (n.1+5) by simp only[Ad6,Hc,hold]]
     exact⟨by simp only[A9,Hc,Ad6];omega,hpn _ g1,fun h=>(h rfl).elim,fun _=>⟨ho,hw,hn',hfo,hse,hsn,rfl,rfl,g1,g2,.inl ⟨hN,rfl,hq,hk⟩⟩⟩
    |false=>
     rw[Ao]
     refine⟨_,p1,0,rfl,?_⟩
     rw[show((c.1,c.2.1,e1.1,e1.2.1,e1.2.2.1,e1.2.2.2.1,e1.2.2.2.2.1,c.2.2.2.2.2.2.2.1,c.2.2.2.2.2.2.2.2.1,c.2.2.2.2.2.2.2.2.2.1,c.2.2.2.2.2.2.2.2.2.2.1,c.2.2.2.2.2.2.2.2.2.2.2.1,true,c.2.2.2.2.2.2.2.2.2.2.2.2.2.1,c.2.2.2.2.2.2.2.2.2.2.2.2.2.2.1,()):Au)=Hc c e1 by simp only[Hc,hold]]
     exact plain
   |false=>
    rw[Ao]
    refine⟨_,p1,0,rfl,?_⟩
    rw[show((c.1,c.2.1,e1.1,e1.2.1,e1.2.2.1,e1.2.2.2.1,e1.2.2.2.2.1,c.2.2.2.2.2.2.2.1,c.2.2.2.2.2.2.2.2.1,c.2.2.2.2.2.2.2.2.2.1,c.2.2.2.2.2.2.2.2.2.2.1,c.2.2.2.2.2.2.2.2.2.2.2.1,false,c.2.2.2.2.2.2.2.2.2.2.2.2.2.1,c.2.2.2.2.2.2.2.2.2.2.2.2.2.2.1,()):Au)=Hc c e1 by simp only[Hc,hold]]
    exact plain
  .simp only[show(z1 != (0:Int))=true by simpa using hz,A6]
   exact nope z1 hz
 |false=>
  simp only[Ao]
  have nxt: ∃c' p z,(br (decide ((c.2.2.2.2.2.2.2.2.2.2.2.2.2.2.1.length:Int)>(0:Int))) (br (f.2.2.2.2.2.2.2.1==IntKind.i64.wrap (c.2.2.1+(1:Int))) (br (z3 != (0:Int)) (some (c,(([]:List YB),()),(z3,()))) (some ((c.1,c.2.1,e3.1,e3.2.1,e3.2.2.1,e3.2.2.2.1,e3.2.2.2.2.1,c.2.2.1,c.2.2.2.1,c.2.2.2.2.1,c.2.2.2.2.2.1,c.2.2.2.2.2.2.1,true,IntKind.i64.wrap (n.1+(5:Int)),([]:List YB),()),(p3,()),((0:Int),())))) (some (c,(([]:List YB),()),((8:Int),())))) (some (c,(([]:List YB),()),((8:Int),()))))=some (c',(p,()),(z,()))/\ChO c n.1 f c' p z:=by
   cases hnx:decide ((c.2.2.2.2.2.2.2.2.2.2.2.2.2.2.1.length:Int)>(0:Int))with
   |false=>exact nope 8 zq7
   |true=>
   have hnx':(c.2.2.2.2.2.2.2.2.2.2.2.2.2.2.1.length:Int)>0:=of_decide_eq_true hnx
   obtain⟨k1,k2,k3⟩:=f5.resolve_left zq0
   simp only[A6]
   cases q3:(f.2.2.2.2.2.2.2.1==IntKind.i64.wrap (c.2.2.1+(1:Int)))with
   |false=>exact nope 8 zq7
   |true=>
   rw[hwN]at q3
   have q3:f.2.2.2.2.2.2.2.1=c.2.2.1+1:=by simpa using q3
   simp only[A6]
   by_cases hz:z3=0
   .subst hz
    simp only[show((0:Int) != (0:Int))=false from rfl,Ao,hw5]
    obtain⟨o1,o2,o3,o4,o5⟩:=E3.ok rfl
    obtain⟨g1,g2⟩:=pl (Fl o1).2.1 o5
    have hN:e3.1=c.2.2.1+1:=by rw[o2];show en.1=_;rw[<-o4,q3]
    have hs0:e3.2.2.1=0:=by
     rw[o2]
     show en.2.2.1=0
     unfold Gl Ado at n2
     simp only[Af,Ah,Aa,Ak,Cy,Ac]at n2
     cases hb:inR (IntKind.i64.wrap (c.2.2.1+(1:Int))) 0 4294967295 with
     |false=>
      rw[hb]at n2
      simp only[Bool.not_false,A6,Option.some.injEq]at n2
      rw[<-n2]
     |true=>
      rw[hb]at n2
      simp only[Bool.not_true,Ao]at n2
      rw[C4 zq1,Auo,Aup]at n2
      simp only[Ac]at n2
      rw[Ai zq1,Ay]at n2
      simp only[Option.some.injEq]at n2
      rw[<-n2]
    obtain⟨_,l1,l2⟩:=Fl o3
    have hmv:=Btx (u:=n.1+5) ho o3 hN zq0
    refine⟨moved c e3 (n.1+5),p3,0,rfl,?_,hpn _ g1,fun h=>(h rfl).elim,fun _=>⟨ho,hmv,hn',hfo,hse,hsn,rfl,rfl,g1,g2,.inr ⟨hN,rfl,hs0,q3,k2⟩⟩⟩
    simp only[A9,moved,List.length_nil];omega
   .simp only[show(z3 != (0:Int))=true by simpa using hz,A6]
    exact nope z3 hz
  cases hold:c.2.2.2.2.2.2.2.2.2.2.2.2.1 with
  |false=>exact nxt
  |true=>
   simp only[A6]
   obtain⟨v1,v2,v3⟩:=Anw f4 hold f6
   have old: ∃c' p z,(br (z2 != (0:Int)) (some (c,(([]:List YB),()),(z2,()))) (some ((c.1,c.2.1,c.2.2.1,c.2.2.2.1,c.2.2.2.2.1,c.2.2.2.2.2.1,c.2.2.2.2.2.2.1,e2.1,e2.2.1,e2.2.2.1,e2.2.2.2.1,e2.2.2.2.2.1,true,c.2.2.2.2.2.2.2.2.2.2.2.2.2.1,c.2.2.2.2.2.2.2.2.2.2.2.2.2.2.1,()),(p2,()),((0:Int),()))))=some (c',(p,()),(z,()))/\ChO c n.1 f c' p z:=by
    by_cases hz:z2=0
    .subst hz
     simp only[show((0:Int) != (0:Int))=false from rfl,Ao]
     obtain⟨o1,o2,o3,o4,o5⟩:=E2.ok rfl
     obtain⟨g1,g2⟩:=pl (Fl o1).2.1 o5
     have hwo:=Bor ho hold o3 (by rw[o2];rfl)
     refine⟨_,p2,0,rfl,?_⟩
     rw[show((c.1,c.2.1,c.2.2.1,c.2.2.2.1,c.2.2.2.2.1,c.2.2.2.2.2.1,c.2.2.2.2.2.2.1,e2.1,e2.2.1,e2.2.2.1,e2.2.2.2.1,e2.2.2.2.2.1,true,c.2.2.2.2.2.2.2.2.2.2.2.2.2.1,c.2.2.2.2.2.2.2.2.2.2.2.2.2.2.1,()):Au)=Apq c e2 by simp only[Apq,hold]]
     exact⟨by simp only[A9,Apq];omega,hpn _ g1,fun h=>(h rfl).elim,fun _=>⟨ho,hwo,hn',hfo,hse,hsn,rfl,rfl,g1,g2,.inl ⟨rfl,rfl,rfl,rfl⟩⟩⟩
    .simp only[show(z2 != (0:Int))=true by simpa using hz,A6]
     exact nope z2 hz
   cases q2:(f.2.2.2.2.2.2.2.1==c.2.2.2.2.2.2.2.1)with
   |false=>exact nxt
   |true=>
    simp only[A6]
    cases (c.2.2.2.2.2.2.2.2.2.2.2.2.2.1 != (-1:Int))with
    |false=>exact old
    |true=>
     simp only[A6]
     cases decide (n.1>c.2.2.2.2.2.2.2.2.2.2.2.2.2.1)with
     |true=>exact nope 9 zq7
     |false=>exact old
theorem A3d (c:Au) (n:YI) (f:Ap) (h:A9 c<=67000000) (h2:Av f<=67108864) (w1:wfB f.2.2.2.1) (w2:wfB c.2.1):
  ∃c' p z,Ou c n f=some (c',(p,()),(z,()))/\L4 c n f=some (c',(p,()),(z,()))/\ChO c n.1 f c' p z:=by
 obtain⟨c',p,z,k1,k2⟩:=Bos c n f h h2 w1 w2
 exact⟨c',p,z,(Blj c n f h h2 w1 w2).trans k1,k1,k2⟩
theorem Bdu (c:Au) (n:YI) (h:A9 c<=67000000): ∃k b,Aad c n=some ((k,()),(b,()))/\Af9 c n=some ((k,()),(b,()))/\k.length<=A9 c/\(k.length=0\/k.length=32):=by
 have hc:=h
 simp only[A9]at hc
 unfold Aad Asy Af9 As6
 simp only[Af,Ah,Aa,Ak,List.length_nil,Nat.zero_add,List.nil_append]
 rw[Wq c Ba9 Bba,S3 c]
 simp only[Ac]
 cases ho:Cz c with
 |false=>exact⟨[],false,rfl,rfl,by simp,.inl rfl⟩
 |true=>
 obtain⟨f1,f2,f3,f4,f5⟩:=Ir ho
 obtain⟨f6,f7,f8⟩:=Fl f3
 simp only[Bool.not_true,Ao]
 rw[Cb _ zq2,Cb _ zq2,Cb _ zq2,Ai (p:=c.2.2.2.2.2.2.2.2.1.length<=4294967296) zq0,Ai (p:=c.2.2.2.1.length<=4294967296) zq0,Ai (p:=c.2.2.2.2.2.2.2.2.2.2.2.2.2.2.1.length<=4294967296) zq0]
 simp only[Ac,Ay]
 have none: ∃k b,some ((([]:List YB),()),(false,()))=some ((k,()),(b,()))/\some ((([]:List YB),()),(false,()))=some ((k,()),(b,()))/\k.length<=A9 c/\(k.length=0\/k.length=32):=⟨[],false,rfl,rfl,by simp,.inl rfl⟩
 have rest: ∃k b,br (n.1==c.2.2.1) (some ((c.2.2.2.1,()),(true,()))) (br (decide ((c.2.2.2.2.2.2.2.2.2.2.2.2.2.2.1.length:Int)>(0:Int))) (br (n.1==IntKind.i64.wrap (c.2.2.1+(1:Int))) (some ((c.2.2.2.2.2.2.2.2.2.2.2.2.2.2.1,()),(true,()))) (some (([],()),(false,())))) (some (([],()),(false,()))))=some ((k,()),(b,()))/\br (n.1==c.2.2.1) (some ((c.2.2.2.1,()),(true,()))) (br (decide ((c.2.2.2.2.2.2.2.2.2.2.2.2.2.2.1.length:Int)>(0:Int))) (br (n.1==IntKind.i64.wrap (c.2.2.1+(1:Int))) (some ((c.2.2.2.2.2.2.2.2.2.2.2.2.2.2.1,()),(true,()))) (some (([],()),(false,())))) (some (([],()),(false,()))))=some ((k,()),(b,()))/\k.length<=A9 c/\(k.length=0\/k.length=32):=by
  cases (n.1==c.2.2.1)with
  |true=>exact⟨_,true,rfl,rfl,by simp only[A9];omega,.inr f7⟩
  |false=>
   simp only[Ao]
   cases decide ((c.2.2.2.2.2.2.2.2.2.2.2.2.2.2.1.length:Int)>(0:Int))with
   |false=>exact none
   |true=>
    simp only[A6]
    cases (n.1==IntKind.i64.wrap (c.2.2.1+(1:Int)))with
    |false=>exact none
    |true=>exact⟨_,true,rfl,rfl,by simp only[A9];omega,f5.imp id fun q=>q.2.1⟩
 cases hold:c.2.2.2.2.2.2.2.2.2.2.2.2.1 with
 |false=>exact rest
 |true=>
  simp only[A6]
  obtain⟨v1,v2,v3⟩:=Anw f4 hold f6
  cases (n.1==c.2.2.2.2.2.2.2.1)with
  |true=>exact⟨_,true,rfl,rfl,by simp only[A9];omega,.inr (Fl v1).2.1⟩
  |false=>exact rest
def Hs (k s b:List YB):Aq:=((16:Int),(0:Int),(0:Int),[],s,(0:Int),(0:Int),b,k,(0:Int),(0:Int),(0:Int),())
theorem Apr (k s b:List YB) (h1:k.length<=4294967296) (h2:s.length<=4294967296) (h3:b.length<=4294967296):Aiy (k,()) (s,()) (b,())=some (Hs k s b):=by
 unfold Aiy A4x
 simp (disch:=first|omega|(dsimp only;omega)) only[Ah,Aa,Cb,Ac]
 rfl
theorem Bie (k s b:List YB) (h1:k.length<=4294967296) (h2:s.length<=4294967296) (h3:b.length<=4294967296):Ai1 (k,()) (s,()) (b,())=some (Hs k s b):=by
 unfold Ai1 A46
 simp only[Ak,Aa,List.length_nil,Nat.zero_add,List.nil_append]
 rw[Ai h1,Ai h2,Ai h3]
 rfl
theorem Bdv:I6 (List.replicate 32 ((0:Int),())):=⟨rfl,fun q x hx=>by
 rw[List.getElem?_replicate]at hx
 split at hx
 .simp only[Option.some.injEq]at hx;subst hx;exact⟨by decide,by decide⟩
 .cases hx⟩
theorem Bvu (r:Nat):Ab2 (List.replicate 32 ((0:Int),())) r=false:=by
 unfold Ab2
 rw[List.getElem?_replicate]
 split<;>simp
theorem Brv:N3 Aja=true:=by
 unfold N3
 simp only[Bool.and_eq_true]
 refine⟨by decide,⟨Age.2 fun q x hx=>by have:=Bdv.2 q x hx;omega,by rfl⟩,Anv.2 fun i hi=>?_,by rfl⟩
 rw[Agt (w:=Aja) Bdv (by show(0:Int)<= -1+1+(i:Nat);omega)]
 exact Bvu _
def Az6 (n:Int) (k:List YB):YEp:=(n,k,(0:Int),(-1:Int),List.replicate 32 ((0:Int),()),())
theorem Bdw {n:Int} {k:List YB} (hn:0<=n/\n<=4294967295) (hk:k.length=32):Hu (Az6 n k)=true:=by
 unfold Hu
 simp only[Bool.and_eq_true]
 exact⟨Bx.2 hn,by show((k.length:Int)==32)=true;rw[hk];rfl,(show inR 0 0 281474976710656=true by decide),Brv⟩
theorem Bdx (n:Int) (k:List YB) (hn:0<=n/\n<=4294967295) (hk:k.length=32):O8 (n,()) (k,())=some (Az6 n k)/\Gl (n,()) (k,())=some (Az6 n k):=by
 have q:((k.length:Int) != 32)=false:=by simp[hk]
 have r:inR n 0 4294967295=true:=Bx.2 hn
 unfold O8 Akd Gl Ado
 simp only[Af,Ah,Aa,Ak,Cm,Cy,Ac,Auo,Aup,List.nil_append,List.length_nil,Nat.zero_add,r,Bool.not_true,Ao,q]
 rw[Cb _ zq2,Ai zq0]
 exact⟨rfl,rfl⟩
def A5p (r:Int) (sn k:List YB):Au:=(r,sn,(0:Int),k,(0:Int),(-1:Int),List.replicate 32 ((0:Int),()),(0:Int),[],(0:Int),(0:Int),[],false,(0:Int),[],())
theorem Blk (r:Int) (sn k:List YB) (hr:r=0\/r=1) (hs:sn.length=12) (hk:k.length=32):Vf (r,()) (sn,()) (k,())=some (A5p r sn k)/\Ja (r,()) (sn,()) (k,())=some (A5p r sn k):=by
 obtain⟨e1,e2⟩:=Bdx 0 k zq0 hk
 have q:((k.length:Int) != 32)=false:=by simp[hk]
 have q1:((sn.length:Int)==12)=true:=by simp[hs]
 have q2:((sn.length:Int) != 12)=false:=by simp[hs]
 have q3:inR r 0 1=true:=Bx.2 zq0
 unfold Vf Acz Ja Ux
 simp only[Af,Ah,Aa,Ak,Abx,Cy,Hz,Ac,Ago,List.nil_append,List.length_nil,Nat.zero_add,q,q1,q2,q3,Bool.not_true,Ao]
 rw[Cb _ zq2,Ai zq0,e1,e2]
 exact⟨rfl,rfl⟩
theorem Bll {r:Int} {sn k:List YB} (hr:r=0\/r=1) (hs:sn.length=12) (hk:k.length=32):Cz (A5p r sn k)=true:=by
 unfold Cz
 simp only[Bool.not_not,Bool.and_eq_true,Bool.or_eq_true,beq_iff_eq]
 refine⟨hr,by show(sn.length:Int)=12;omega,Bdw (n:=0) zq0 hk,?_,.inl rfl⟩
 unfold Ps
 rfl
theorem Az7 {k l:List YB} (h1:l.length<=100) (h2:k.length<=1048576):(Ip k l).length=32:=by
 unfold Ip Pv
 rw[if_pos ⟨h1,h2⟩]
 exact Rc _ _ h2 zq1
def Bye:List YB:=Kq (Dq [102,105,110,105,115,104])
def Bou:List YB:=[((114:Int),()),((111:Int),()),((97:Int),()),((109:Int),())]
def Jt (p:List YB):List YB:=bif L8 (p,())then Ip (H6 Bou p) Bye else []
theorem Anx (p:List YB):V5 (p,())=some (Jt p,()):=by
 unfold V5 Aey Ada Acw Jt
 simp only[Af,Ah,Aa,A1b,Ac]
 rw[Apl,Ac,Ac,A5n _ _ zq7,Ac]
 cases L8 (p,())<;>rfl
theorem A3e (p:List YB):V3 (p,())=some (Jt p,()):=by
 unfold V3 Ael Ac4 Acj Jt
 simp only[Af,Ah,Aa,Agr,Ac]
 rw[Apm,Ac,Ac,Aum _ _ zq7,Ac]
 cases L8 (p,())<;>rfl
theorem Az8 {p:List YB} (h:L8 (p,())=true):(Jt p).length=32:=by
 unfold Jt
 rw[h]
 have hl:(H6 Bou p).length<=32:=by rcases Auf Bou p with q|q<;>omega
 exact Az7 zq7 zq0
def S8 (id:Int) (cn sn:List YB) (tick:Int) (ck:List YB):Bool:=inR id 1 9 && (((cn.length:Int)==12) && (((sn.length:Int)==12) && (inR tick 0 1000000 && ((ck.length:Int)==16))))
def H3 (id:Int) (cn sn:List YB) (tick:Int) (ck:List YB):List YB:=bif S8 id cn sn tick ck then((102:Int),())::(IntKind.u8.wrap id,())::(cn++(sn++(F9 tick 4 4++ck)))else []
theorem Any (id:Int) (cn sn:List YB) (tick:Int) (ck:List YB):V6 (id,()) (cn,()) (sn,()) (tick,()) (ck,())=some (H3 id cn sn tick ck,()):=by
 unfold V6 Ae0 H3 S8
 simp only[Af,Ah,Aa,Cm,Hz,Ac,bne]
 cases inR id 1 9 with
 |false=>rfl
 |true=>
  cases h1:((cn.length:Int)==12)with
  |false=>rfl
  |true=>
   cases h2:((sn.length:Int)==12)with
   |false=>rfl
   |true=>
    cases inR tick 0 1000000 with
    |false=>rfl
    |true=>
     cases h3:((ck.length:Int)==16)with
     |false=>rfl
     |true=>
      have k1:(cn.length:Int)=12:=by simpa using h1
      have k2:(sn.length:Int)=12:=by simpa using h2
      have k3:(ck.length:Int)=16:=by simpa using h3
      simp only[Bool.not_true,Ao,Bool.and_true,cond_true]
      rw[Ov _ _ zq3,Ac,Hv _ zq6 zq3,Ac]
      simp[cat]
theorem A3f (id:Int) (cn sn:List YB) (tick:Int) (ck:List YB):V4 (id,()) (cn,()) (sn,()) (tick,()) (ck,())=some (H3 id cn sn tick ck,()):=by
 unfold V4 Aen H3 S8
 simp only[Af,Ah,Aa,Ak,Cy,Ac,bne]
 cases inR id 1 9 with
 |false=>rfl
 |true=>
  cases h1:((cn.length:Int)==12)with
  |false=>rfl
  |true=>
   cases h2:((sn.length:Int)==12)with
   |false=>rfl
   |true=>
    cases inR tick 0 1000000 with
    |false=>rfl
    |true=>
     cases h3:((ck.length:Int)==16)with
     |false=>rfl
     |true=>
      have k1:(cn.length:Int)=12:=by simpa using h1
      have k2:(sn.length:Int)=12:=by simpa using h2
      have k3:(ck.length:Int)=16:=by simpa using h3
      simp only[Bool.not_true,Ao,Bool.and_true,cond_true]
      rw[Ai zq1,Ay,Ai zq1,Ay,Lo _ _ zq1,Ac]
      simp only
      rw[Ai zq4,Ay]
      simp
theorem Awo {id:Int} {cn sn:List YB} {tick:Int} {ck:List YB}:(H3 id cn sn tick ck).length=bif S8 id cn sn tick ck then 46 else 0:=by
 unfold H3
 cases h:S8 id cn sn tick ck with
 |false=>rfl
 |true=>
  unfold S8 at h
  simp only[Bool.and_eq_true,beq_iff_eq]at h
  simp[Fi];omega
def Ad7 (p:List YB) (id:Int) (cn sn:List YB) (tick:Int) (ck:List YB):List YB:=if (Jt p).length=0\/(H3 id cn sn tick ck).length=0 then []else Ur (Jt p) (H3 id cn sn tick ck)
theorem Bdy (p:List YB) (id:Int) (cn sn:List YB) (tick:Int) (ck:List YB):(Ad7 p id cn sn tick ck).length<=16:=by
 unfold Ad7
 split
 .simp
 .exact Bmk _ _
theorem Bmq (p:List YB) (id:Int) (cn sn:List YB) (tick:Int) (ck:List YB):Azk (p,()) (id,()) (cn,()) (sn,()) (tick,()) (ck,())=some (Ad7 p id cn sn tick ck,()):=by
 unfold Azk Ayr Ad7
 simp only[Af,Ah,Aa,Anx,Any,Bf1,Ac]
 by_cases h1:(Jt p).length=0
 .rw[Dv (by simp[h1]),if_pos (.inl h1)]
 .rw[C4 (by simp;exact fun e=>h1 (by simp[e]))]
  by_cases h2:(H3 id cn sn tick ck).length=0
  .rw[Dv (by simp[h2]),if_pos (.inr h2)]
  .rw[C4 (by simp;exact fun e=>h2 (by simp[e])),if_neg (by rintro(q|q);exact h1 q;exact h2 q)]
theorem Bbg (p:List YB) (id:Int) (cn sn:List YB) (tick:Int) (ck:List YB):W7 (p,()) (id,()) (cn,()) (sn,()) (tick,()) (ck,())=some (Ad7 p id cn sn tick ck,()):=by
 unfold W7 Axf Ad7
 simp only[Af,Ah,Aa,A3e,A3f,Bf2,Ac]
 by_cases h1:(Jt p).length=0
 .rw[Dv (by simp[h1]),if_pos (.inl h1)]
 .rw[C4 (by simp;exact fun e=>h1 (by simp[e]))]
  by_cases h2:(H3 id cn sn tick ck).length=0
  .rw[Dv (by simp[h2]),if_pos (.inr h2)]
  .rw[C4 (by simp;exact fun e=>h2 (by simp[e])),if_neg (by rintro(q|q);exact h1 q;exact h2 q)]
theorem Bif {f:Ap} (h:Bu f=true) (hk:f.1=2):f.2.2.1.length=12/\f.2.2.2.1.length=12/\(0<=f.2.2.2.2.1/\f.2.2.2.2.1<=1000000)/\f.2.2.2.2.2.1.length=16/\f.2.1=0/\f.2.2.2.2.2.2.1.length=0/\f.2.2.2.2.2.2.2.1=0/\f.2.2.2.2.2.2.2.2.1=0/\f.2.2.2.2.2.2.2.2.2.1.length=0/\f.2.2.2.2.2.2.2.2.2.2.1.length=0:=by
 unfold Bu at h
 rw[hk]at h
 simp only[show inR 2 4 8=false by decide,cond_false,show((2:Int)==1)=false by decide,show((2:Int)==2)=true by decide,cond_true,Bool.and_eq_true,beq_iff_eq,Bx]at h
 omega
def A1e (l:List YB) (n:Int):Bool:=((l.length:Int)==0) || ((l.length:Int)==n)
def L6 (n:Aq):Bool:=inR n.1 1 17 && (inR n.2.1 0 9 && (inR n.2.2.1 0 1 && (inR n.2.2.2.2.2.1 0 4294967295 && (inR n.2.2.2.2.2.2.1 0 281474976710655 && (inR n.2.2.2.2.2.2.2.2.2.2.2.1 0 1000000 &&
 (A1e n.2.2.2.1 12 && (A1e n.2.2.2.2.1 12 && (decide ((n.2.2.2.2.2.2.2.1.length:Int)<=100) && (A1e n.2.2.2.2.2.2.2.2.1 32 && Cq (n.2.2.2.2.2.2.2.2.2.1,n.2.2.2.2.2.2.2.2.2.2.1,()))))))))))
theorem Ng {n:Aq}:L6 n=true↔(1<=n.1/\n.1<=17)/\(0<=n.2.1/\n.2.1<=9)/\(0<=n.2.2.1/\n.2.2.1<=1)/\(0<=n.2.2.2.2.2.1/\n.2.2.2.2.2.1<=4294967295)/\(0<=n.2.2.2.2.2.2.1/\n.2.2.2.2.2.2.1<=281474976710655)/\(0<=n.2.2.2.2.2.2.2.2.2.2.2.1/\n.2.2.2.2.2.2.2.2.2.2.2.1<=1000000)/\
  (n.2.2.2.1.length=0\/n.2.2.2.1.length=12)/\(n.2.2.2.2.1.length=0\/n.2.2.2.2.1.length=12)/\n.2.2.2.2.2.2.2.1.length<=100/\(n.2.2.2.2.2.2.2.2.1.length=0\/n.2.2.2.2.2.2.2.2.1.length=32)/\Cq (n.2.2.2.2.2.2.2.2.2.1,n.2.2.2.2.2.2.2.2.2.2.1,())=true:=by
 unfold L6 A1e
 simp only[Bool.and_eq_true,Bool.or_eq_true,beq_iff_eq,Bx,decide_eq_true_eq]
 constructor
 .rintro⟨a,b,c,d,e,f,g,h,i,j,k⟩
  exact⟨a,b,c,d,e,f,by omega,by omega,by omega,by omega,k⟩
 .rintro⟨a,b,c,d,e,f,g,h,i,j,k⟩
  exact⟨a,b,c,d,e,f,by omega,by omega,by omega,by omega,k⟩
theorem A87:Cq ((0:Int),(0:Int),())=true:=by decide
theorem Vl (r:Int) (f:Ap):(D9 r f).length<=65:=by
 have hh:=Pb r f.2.2.2.1 f.2.2.2.2.2.2.2.1 f.2.2.2.2.2.2.2.2.1
 have hle:(Et r f.2.2.2.1 f.2.2.2.2.2.2.2.1 f.2.2.2.2.2.2.2.2.1).length<=23:=by rw[hh];cases H1 r f.2.2.2.1 f.2.2.2.2.2.2.2.1 f.2.2.2.2.2.2.2.2.1<;>simp
 unfold D9
 cases h:(inR r 0 1 && (Bu f && inR f.1 4 8))with
 |false=>simp
 |true=>
  simp only[Bool.and_eq_true]at h
  have:=Ui h.2.1 h.2.2
  simp;omega
theorem Big {k b:List YB} (h1:k.length=0\/k.length=32) (h2:b.length<=100):L6 (L9 k b)=true:=by
 rw[Ng]
 simp only[L9,List.length_nil]
 exact⟨by omega,by omega,by omega,by omega,by omega,by omega,.inl trivial,.inl trivial,h2,h1,A87⟩
theorem A5q {k s b:List YB} (h1:k.length=0\/k.length=32) (h2:s.length=0\/s.length=12) (h3:b.length<=100):L6 (Hs k s b)=true:=by
 rw[Ng]
 simp only[Hs,List.length_nil]
 exact⟨by omega,by omega,by omega,by omega,by omega,by omega,.inl trivial,h2,h3,h1,A87⟩
theorem Aus {c:Au} {f:Ap} (h:Cz c=true):L6 (Hd c f)=true:=
 Big (.inr (Fl (Ir h).2.2.1).2.1) (Nat.le_trans (Vl _ _) zq0)
def I7 (l:List Aq):Prop:=∀n∈l,L6 n=true
theorem Bih {p a b:List YB} (k:L8 (p,())=true) (h1:a.length=12) (h2:b.length=12):(Nw p a b 0).length=32:=by
 have hroot:(Lp p a b).length=32:=by
  unfold Lp
  have hp:inR (p.length:Int) 1 32=true:=k
  rw[if_pos ⟨hp,h1,h2⟩]
  have:=Bx.1 hp
  exact Rc _ _ zq1 zq0
 have hfirst:(I5 (Lp p a b)).length=32:=by
  unfold I5
  rw[if_pos hroot]
  exact Az7 zq7 zq0
 unfold Nw
 rw[if_neg zq0]
 unfold App
 rw[if_pos zq0]
 exact hfirst
def A5r (a b:Int) (x:Bb):Prop:=Cq (x.1,x.2.1,())=true/\eqA x.1 x.2.1 a b=false/\x.2.2.1.length=12/\(0<=x.2.2.2.1/\x.2.2.2.1<=1000006)
theorem K9 {a b:Int} {l:List Bb}:E8 (a,b,l,())=true↔Cq (a,b,())=true/\l.length<=3/\(∀x∈l,A5r a b x)/\l.Pairwise (fun y x=>eqA y.1 y.2.1 x.1 x.2.1=false):=by
 have key:Ee (Ue a b l) l=true↔(∀x∈l,A5r a b x)/\l.Pairwise (fun y x=>eqA y.1 y.2.1 x.1 x.2.1=false):=by
  rw[H0,List.pairwise_iff_getElem]
  unfold Ue A5r
  simp only[Bool.not_eq_false',Bool.and_eq_true,Bool.not_eq_true',beq_iff_eq,Bx,H0]
  constructor
  .intro h
   refine⟨fun x hx=>?_,fun i j hi hj hij=>?_⟩
   .obtain⟨j,hj⟩:=List.getElem?_of_mem hx
    obtain⟨h1,h2,h3,h4,_⟩:=h j x hj
    exact⟨h1,h2,by omega,h4⟩
   .obtain⟨_,_,_,_,h5⟩:=h j l[j] (List.getElem?_eq_getElem hj)
    exact h5 i l[i] (by rw[List.getElem?_take,if_pos hij];exact List.getElem?_eq_getElem hi)
  .rintro⟨h1,h2⟩ j x hj
   obtain⟨g1,g2,g3,g4⟩:=h1 x (List.mem_of_getElem? hj)
   refine⟨g1,g2,by omega,g4,fun i y hi=>?_⟩
   rw[List.getElem?_take]at hi
   split at hi
   .rename_i hlt
    obtain⟨k1,k2⟩:=List.getElem?_eq_some_iff.1 hi
    obtain⟨k3,k4⟩:=List.getElem?_eq_some_iff.1 hj
    have:=h2 i j k1 k3 hlt
    rw[k2,k4]at this
    exact this
   .cases hi
 unfold E8
 simp only[Bool.and_eq_true,Bool.not_eq_true',decide_eq_false_iff_not,key]
 constructor
 .rintro⟨h1,h2,h3⟩;exact⟨h1,by omega,h3⟩
 .rintro⟨h1,h2,h3⟩;exact⟨h1,by omega,h3⟩
def atA (a b:Int) (x:Bb):Bool:=eqA x.1 x.2.1 a b
theorem Aps {a b c d:Int}:eqA a b c d=true↔a=c/\b=d:=by unfold eqA;simp
theorem Ajc (p:Bn) (a:A8) (h:p.2.2.1.length<=4294967296):Af7 p a=some (Mb (atA a.1 a.2.1) p.2.2.1,()):=by
 obtain⟨b,d,l,⟨⟩⟩:=p
 simp only at h
 have hl:=O9 (B:=Sj) l (fun i=>(l,(l.length:Int),(i:Int),a.1,a.2.1,())) (fun _ x=>atA a.1 a.2.1 x) (fun i=>((i:Int),())) ()
  (fun i x hi hx=>by
   unfold Sj
   simp (disch:=omega) only[Af,Ah,Aa,Dh hi,A6,B8 hx,Ac,w64]
   rfl)
  (by unfold Sj;simp only[Af,Aa,Di,Ao])
 unfold Af7 As0
 simp only[Ah,Aa,Ey]
 rw[show((0:Int))=((0:Nat):Int)from rfl,hl]
 exact Azr _ _
theorem Brw {p:Bn} {n:Int} (h:E8 p=true):E8 (Ez p n)=true:=by
 obtain⟨a,b,l,⟨⟩⟩:=p
 obtain⟨h1,h2,h3,h4⟩:=K9.1 h
 refine K9.2 ⟨h1,?_,fun x hx=>h3 x ((List.mem_filter.1 hx).1),h4.filter _⟩
 have:=List.length_filter_le (Nf n) l
 exact Nat.le_trans this h2
def OfH (p:Bn) (n:Int) (p':Bn) (b:Bool):Prop:=(b=false->p'=p)/\Bd p'<=Bd p+50/\(b=true->E8 p=true/\E8 p'=true)
theorem Kf (p:Bn) (n:YI) (a:A8) (d:YBs) (h:Bd p<=4294967296): ∃p' b,Do p n a d=some (p',(b,()))/\E6 p n a d=some (p',(b,()))/\OfH p n.1 p' b:=by
 have h':=h
 have hl0:p.2.2.1.length<=Bd p:=by simp only[Bd];omega
 obtain⟨d,⟨⟩⟩:=d
 have nope: ∃p' b,some (p,(false,()))=some (p',(b,()))/\some (p,(false,()))=some (p',(b,()))/\OfH p n.1 p' b:=⟨p,false,rfl,rfl,fun _=>rfl,by omega,fun h=>by cases h⟩
 unfold Do Adw E6 Axp
 simp only[Af,Ah,Aa,Ak,Ey]
 rw[Xa p zq0,Akt p zq0,Cm,Cy,Ik,Il,Hz,Nv p h,Xc p h,Wv p n h,Bop p n h]
 simp only[Ac,bne]
 cases ho:E8 p with
 |false=>exact nope
 |true=>
 simp only[Bool.not_true,Ao]
 cases hn:inR n.1 0 1000000 with
 |false=>exact nope
 |true=>
 simp only[Bool.not_true,Ao]
 cases ha:Cq a with
 |false=>exact nope
 |true=>
 simp only[Bool.not_true,Ao]
 cases hd:((d.length:Int)==12)with
 |false=>exact nope
 |true=>
 simp only[Bool.not_true,Ao]
 cases hat:(and (a.1==p.1) (and (a.2.1==p.2.1) true))with
 |true=>exact nope
 |false=>
 simp only[Ao]
 have ht:S7 p n.1=Ez p n.1:=by unfold S7;rw[ho,hn];rfl
 rw[ht]
 have hd':d.length=12:=by have:=eq_of_beq hd;omega
 have hn':=Bx.1 hn
 have htn:=A3b p n.1
 have hto:=Brw (n:=n.1) ho
 have htl:(Ez p n.1).2.2.1.length<=Bd (Ez p n.1):=by simp only[Bd];omega
 have h1:(Ez p n.1).1=p.1:=rfl
 have h2:(Ez p n.1).2.1=p.2.1:=rfl
 rw[Ajc _ _ zq0]
 simp only[Ac]
 have hs:=O9 (B:=Q1) (Ez p n.1).2.2.1 (fun i=>(n.1,d,(i:Int),p.1,p.2.1,p.2.2.1,a.1,a.2.1,(0:Int),(0:Int),([]:List Bb),(Ez p n.1).1,(Ez p n.1).2.1,(Ez p n.1).2.2.1,())) (fun _ x=>atA a.1 a.2.1 x) (fun _=>(false,p.1,p.2.1,p.2.2.1,())) (n.1,d,p.1,p.2.1,p.2.2.1,a.1,a.2.1,(0:Int),(0:Int),([]:List Bb),(Ez p n.1).1,(Ez p n.1).2.1,(Ez p n.1).2.2.1,())
  (fun i x hi hx=>by
   unfold Q1
   simp (disch:=omega) only[Af,Ah,Aa,Dh hi,A6,B8 hx,Ac,w64]
   rw[show Ei (p.1,p.2.1,p.2.2.1,())=some p from Xc p h]
   rfl)
  (by unfold Q1;simp only[Af,Aa,Di,Ao])
 rw[show A0 Q1 (n.1,d,(0:Int),p.1,p.2.1,p.2.2.1,a.1,a.2.1,(0:Int),(0:Int),([]:List Bb),(Ez p n.1).1,(Ez p n.1).2.1,(Ez p n.1).2.2.1,())=_ from hs]
 simp only[Ac]
 unfold Mb
 cases hf:Im (fun _ x=>atA a.1 a.2.1 x) (Ez p n.1).2.2.1 0 with
 |some k=>
  simp only[Option.elim,Bw7]
  simp only[show((k:Int)≥0)=True from eq_true zq0,decide_true,A6]
  exact nope
 |none=>
  simp only[Option.elim,A5h]
  simp only[show((-1:Int)≥0)=False from eq_false zq0,decide_false,Ao]
  rw[show Ei (p.1,p.2.1,p.2.2.1,())=some p from Xc p h]
  simp only[Ac]
  cases hk:(((Ez p n.1).2.2.1.length:Int)==3)with
  |true=>exact nope
  |false=>
  simp only[Ao]
  have hp: ∃l,Ez p n.1=(p.1,p.2.1,l,()):=⟨_,rfl⟩
  obtain⟨l,hl⟩:=hp
  rw[hl]at hto hf hk htn htl ⊢
  obtain⟨q1,q2,q3,q4⟩:=K9.1 hto
  simp only at hf hk htl ⊢
  have hk': ¬(l.length:Int)=3:=by simpa using hk
  rw[Cb _ zq2]
  simp only[Ac,List.nil_append,List.length_nil,Nat.zero_add,List.length_cons]
  rw[Ai zq0,Ai zq0,Ay,Ay,w64 zq0]
  refine⟨_,true,rfl,rfl,fun h=>(by cases h),?_,fun _=>⟨ho,K9.2 ⟨q1,?_,?_,?_⟩⟩⟩
  .simp only[Bd]at htn ⊢
   simp only[Bd,List.length_append,List.length_cons,List.length_nil,Pu,Br,D0]
   omega
  .simp only[List.length_append,List.length_cons,List.length_nil];omega
  .intro x hx
   rcases List.mem_append.1 hx with hx|hx
   .exact q3 x hx
   .simp only[List.mem_singleton]at hx
    subst hx
    exact⟨ha,hat,hd',by dsimp only;omega⟩
  .rw[List.pairwise_append]
   refine⟨q4,List.pairwise_singleton _ _,fun x hx y hy=>?_⟩
   simp only[List.mem_singleton]at hy
   subst hy
   obtain⟨j,hj⟩:=List.getElem?_of_mem hx
   have:=Ad1.1 hf j x hj
   exact this
theorem Bii {E:Type} {q:E->Bool} {l:List E} {i:Nat} {x:E} (hx:l[i]? =some x) (hq:q x=false) (h: ∀j y,j≠i->l[j]? =some y->q y=true):l.filter q=l.take i++l.drop (i+1):=by
 obtain⟨hi,he⟩:=List.getElem?_eq_some_iff.1 hx
 have e:l=l.take i++(l[i]::l.drop (i+1)):=by rw[<-List.drop_eq_getElem_cons hi,List.take_append_drop]
 have h1:(l.take i).filter q=l.take i:=by
  rw[List.filter_eq_self]
  intro y hy
  obtain⟨j,hj⟩:=List.getElem?_of_mem hy
  rw[List.getElem?_take]at hj
  split at hj
  .exact h j y zq0 hj
  .cases hj
 have h2:(l.drop (i+1)).filter q=l.drop (i+1):=by
  rw[List.filter_eq_self]
  intro y hy
  obtain⟨j,hj⟩:=List.getElem?_of_mem hy
  rw[List.getElem?_drop]at hj
  exact h (i+1+j) y zq0 hj
 conv=>lhs;rw[e]
 rw[List.filter_append,List.filter_cons_of_neg (by rw[he,hq];simp),h1,h2]
theorem Az9 (p:Bn) (n:YI) (a:A8) (d:YBs) (h:Bd p<=4294967296): ∃p' b,Pr p n a d=some (p',(b,()))/\Aga p n a d=some (p',(b,()))/\OfH p n.1 p' b:=by
 have h':=h
 have hl0:p.2.2.1.length<=Bd p:=by simp only[Bd];omega
 obtain⟨d,⟨⟩⟩:=d
 have nope: ∃p' b,some (p,(false,()))=some (p',(b,()))/\some (p,(false,()))=some (p',(b,()))/\OfH p n.1 p' b:=⟨p,false,rfl,rfl,fun _=>rfl,by omega,fun h=>by cases h⟩
 unfold Pr Afx Aga As8 A8n As7
 simp only[Af,Ah,Aa,Ak,Ey]
 rw[Xa p zq0,Akt p zq0,Cm,Cy,Nv p h,Xc p h,Ajc p a zq0]
 simp only[Ac,Gk,S1]
 cases ho:E8 p with
 |false=>exact nope
 |true=>
 obtain⟨a1,a2,l,⟨⟩⟩:=p
 obtain⟨q1,q2,q3,q4⟩:=K9.1 ho
 simp only[Bd]at h' hl0
 simp only[Bool.not_true,Ao]
 have hs:=O9 (B:=Ol) l (fun i=>((i:Int),a1,a2,l,a.1,a.2.1,(0:Int),(0:Int),([]:List YB),(0:Int),())) (fun _ x=>atA a.1 a.2.1 x) (fun i=>(true,(l[i]?.getD ((0:Int),(0:Int),[],(0:Int),())).1,(l[i]?.getD ((0:Int),(0:Int),[],(0:Int),())).2.1,(l[i]?.getD ((0:Int),(0:Int),[],(0:Int),())).2.2.1,(l[i]?.getD ((0:Int),(0:Int),[],(0:Int),())).2.2.2.1,())) ((0:Int),(0:Int),([]:List YB),(0:Int),())
  (fun i x hi hx=>by
   have hnx:=Ln (f:=D0) hx
   unfold Ol
   simp (disch:=omega) only[Af,Ah,Aa,Dh hi,A6,B8 hx,Ac,w64]
   rw[Aku _ zq0,hx]
   rfl)
  (by unfold Ol;simp only[Af,Aa,Di,Ao])
 rw[show A0 Ol ((0:Int),a1,a2,l,a.1,a.2.1,(0:Int),(0:Int),([]:List YB),(0:Int),())=_ from hs]
 simp only[Ac]
 unfold Mb
 cases hf:Im (fun _ x=>atA a.1 a.2.1 x) l 0 with
 |none=>
  simp only[Option.elim,A5h,Ac]
  cases inR n.1 0 1000000 with
  |false=>exact nope
  |true=>exact nope
 |some k=>
  obtain⟨j,x,hkj,hx,hq,hbef⟩:=S4 hf
  rw[Nat.zero_add]at hkj
  subst hkj
  have hxi:=(List.getElem?_eq_some_iff.1 hx).1
  have hxm:=List.mem_of_getElem? hx
  simp only[Option.elim,Bw7,Ac,hx,Option.getD_some,Bool.not_true,Ao]
  cases hn:inR n.1 0 1000000 with
  |false=>exact nope
  |true=>
  simp only[Bool.not_true,Ao]
  simp only[show((k:Int)<0)=False from eq_false zq0,decide_false,Ao,B8 hx,Ac]
  rw[show Cv x.2.2.1 d=Cv d x.2.2.1 by unfold Cv;exact decide_eq_decide.2 ⟨Eq.symm,Eq.symm⟩]
  cases hsd:Cv d x.2.2.1 with
  |false=>exact nope
  |true=>
  simp only[Bool.not_true,Ao]
  cases hu:decide (n.1>x.2.2.2.1)with
  |true=>exact nope
  |false=>
  simp only[Ao]
  have hother: ∀j y,j≠k->l[j]? =some y->(!atA a.1 a.2.1 y)=true:=by
   intro j y hj hy
   rw[Bool.not_eq_true']
   have e:=Aps.1 hq
   obtain⟨k1,k2⟩:=List.getElem?_eq_some_iff.1 hy
   obtain⟨k3,k4⟩:=List.getElem?_eq_some_iff.1 hx
   rw[List.pairwise_iff_getElem]at q4
   rcases Nat.lt_or_gt_of_ne hj with hlt|hgt
   .have:=hbef j y hlt hy
    exact this
   .have:=q4 k j k3 k1 hgt
    rw[k4,k2]at this
    cases hy':atA a.1 a.2.1 y with
    |false=>rfl
    |true=>
     have e2:=Aps.1 hy'
     rw[Aps.2 ⟨e.1.trans e2.1.symm,e.2.trans e2.2.symm⟩]at this
     cases this
  have hsp:=Bii hx (q:=fun y=> !atA a.1 a.2.1 y) (by show(!atA a.1 a.2.1 x)=false;rw[show atA a.1 a.2.1 x=true from hq];rfl) hother
  have hl:=Cs (B:=Om) l.length (fun i=>((i:Int),a1,a2,l,a.1,a.2.1,(0:Int),(0:Int),([]:List Bb),a.1,a.2.1,(l.take i).filter (fun y=> !atA a.1 a.2.1 y),())) ((0:Int),(0:Int),([]:List Bb),a.1,a.2.1,l.filter (fun y=> !atA a.1 a.2.1 y),())
   (fun i hi=>by
    have hx:=List.getElem?_eq_getElem hi
    have hle:=Az3 (p:=fun y=> !atA a.1 a.2.1 y) (l:=l) (i:=i)
    have hs:=Anq (p:=fun y=> !atA a.1 a.2.1 y) hx
    have hn:=Ln (f:=D0) hx
    unfold Om
    simp only[Af,Ah,Aa,Ak,Dh hi,A6,B8 hx,Ac]
    rw[w64 zq0,hs,Aku _ zq0]
    simp only[Ac]
    have hp:(!atA a.1 a.2.1 l[i])= !(and (l[i].1==a.1) (and (l[i].2.1==a.2.1) true)):=rfl
    rw[hp]
    cases (!(and (l[i].1==a.1) (and (l[i].2.1==a.2.1) true)))with
    |false=>simp[Ao]
    |true=>
     simp only[A6,cond_true]
     rw[Ai zq1,Ay]
     rfl)
   (by unfold Om;simp only[Af,Aa,Di,Ao,List.take_length])
  rw[show A0 Om ((0:Int),a1,a2,l,a.1,a.2.1,(0:Int),(0:Int),([]:List Bb),a.1,a.2.1,([]:List Bb),())=_ from hl]
  simp only[Ac]
  have w1:IntKind.i64.wrap ((k:Int)+1)=(k:Int)+1:=w64 zq0
  have w2:(((l.length:Nat):Int)).toNat=l.length:=by omega
  have w3:((k:Nat):Int).toNat=k:=by omega
  have w4:(((k:Nat):Int)+1).toNat=k+1:=by omega
  have w5:(l.take k).length+(l.drop (k+1)).length<=4294967296:=by simp only[List.length_take,List.length_drop];omega
  have w6:Nat.ble (l.take k).length (k+1)=true:=Nat.ble_eq_true_of_le (by simp only[List.length_take];omega)
  have w7:Nat.blt 0 l.length=true:=Nat.ble_eq_true_of_le zq0
  simp only[w1,hsp,show((0:Int)<=(k:Int))=True from eq_true zq0,show((k:Int)<=(l.length:Int))=True from eq_true zq0,show((0:Int)<=(k:Int)+1)=True from eq_true zq0,show((k:Int)+1<=(l.length:Int))=True from eq_true zq0,show((l.length:Int)<=(l.length:Int))=True from eq_true zq0,decide_true,Ay,w2,w3,w4,Int.toNat_zero,List.drop_zero,List.take_length,eq_true w5,w6,w7]
  rw[<-hsp]
  have e:=Aps.1 hq
  refine⟨_,true,rfl,rfl,fun h=>(by cases h),?_,fun _=>⟨ho,K9.2 ⟨?_,?_,?_,q4.filter _⟩⟩⟩
  .have h1:=List.length_filter_le (fun y=> !atA a.1 a.2.1 y) l
   have h2:=Anr (f:=D0) (p:=fun y=> !atA a.1 a.2.1 y) (l:=l)
   simp only[Bd];omega
  .have:=(q3 x hxm).1
   rw[e.1,e.2]at this
   exact this
  .have h1:=List.length_filter_le (fun y=> !atA a.1 a.2.1 y) l
   omega
  .intro y hy
   obtain⟨m1,m2⟩:=List.mem_filter.1 hy
   obtain⟨g1,g2,g3,g4⟩:=q3 y m1
   exact⟨g1,by have:atA a.1 a.2.1 y=false:=(by simpa using m2);exact this,g3,g4⟩
def Apt (c:Au) (e:YEp):Au:=(c.1,c.2.1,e.1,e.2.1,e.2.2.1,e.2.2.2.1,e.2.2.2.2.1,c.2.2.1,c.2.2.2.1,c.2.2.2.2.1,c.2.2.2.2.2.1,c.2.2.2.2.2.2.1,true,(-1:Int),c.2.2.2.2.2.2.2.2.2.2.2.2.2.2.1,())
theorem Brx {c:Au} {e:YEp} (h:Cz c=true) (hr:c.1=1) (he:Hu e=true) (h1:e.1=c.2.2.1+1):Cz (Apt c e)=true:=by
 obtain⟨f1,f2,f3,f4,f5⟩:=Ir h
 have f6:=(Fl f3).1
 have f7:=(Fl he).1
 unfold Cz at h ⊢
 simp only[Bool.not_not,Bool.and_eq_true]at h ⊢
 refine⟨h.1,h.2.1,he,?_,?_⟩
 .unfold Ps
  have hh:Aaj (Apt c e)=true:=rfl
  rw[hh]
  simp only[Bool.not_true,cond_false,Bool.not_not,Bool.and_eq_true,Bool.or_eq_true,Bool.not_eq_true',bne_eq_false_iff_eq]
  refine⟨f3,?_,.inr ⟨rfl,by show(c.1==(1:Int))=true;rw[hr];rfl⟩⟩
  show c.2.2.1=IntKind.i64.wrap (e.1-1)
  have f6':0<=c.2.2.1/\c.2.2.1<=4294967295:=f6
  rw[w64 zq0];omega
 .rcases f5 with f5|f5
  .have:(((Na (Apt c e)).length:Int)==0)=true:=by
    have e1:Na (Apt c e)=c.2.2.2.2.2.2.2.2.2.2.2.2.2.2.1:=rfl
    rw[e1,f5];rfl
   rw[this];rfl
  .omega
def TuH (c:Au) (c':Au) (b:Bool):Prop:=(b=false->c'=c)/\A9 c'<=A9 c+200/\(b=true->Cz c=true/\c.1=1/\Cz c'=true/\c'.1=c.1/\c'.2.1=c.2.1)
theorem Bvv (c:Au) (h:A9 c<=67000000): ∃c' b,A5d c=some (c',(b,()))/\A5f c=some (c',(b,()))/\TuH c c' b:=by
 have nope: ∃c' b,some (c,(false,()))=some (c',(b,()))/\some (c,(false,()))=some (c',(b,()))/\TuH c c' b:=⟨c,false,rfl,rfl,fun _=>rfl,by omega,fun h=>by cases h⟩
 have hc:=h
 simp only[A9]at hc
 unfold A5d A4z A5f A47
 simp only[Af,Ah,Aa]
 rw[Uh c zq0,S5 c zq0,Wq c Ba9 Bba,S3 c,Bdp,Azy]
 simp only[Ac]
 cases ho:Cz c with
 |false=>exact nope
 |true=>
 simp only[Bool.not_true,Ao]
 cases hr:(c.1==(1:Int))with
 |false=>rw[show(c.1 != (1:Int))=true by unfold bne;rw[hr];rfl];exact nope
 |true=>
 rw[show(c.1 != (1:Int))=false by unfold bne;rw[hr];rfl,Ao,Ao]
 cases hm:(c.2.2.1==(4294967295:Int))with
 |true=>exact nope
 |false=>
 simp only[Ao]
 obtain⟨f1,f2,f3,f4,f5⟩:=Ir ho
 have f6:=(Fl f3).1
 have f6:0<=c.2.2.1/\c.2.2.1<=4294967295:=f6
 have f7:c.2.2.2.1.length=32:=(Fl f3).2.1
 have hm':c.2.2.1≠4294967295:=by simpa using hm
 have hk:(Ip c.2.2.2.1 Ad4).length=32:=Az7 zq7 zq0
 rw[w64 zq0]
 obtain⟨n1,n2⟩:=Bdx (c.2.2.1+1) (Ip c.2.2.2.1 Ad4) zq0 hk
 rw[n1,n2]
 refine⟨Apt c (Az6 (c.2.2.1+1) (Ip c.2.2.2.1 Ad4)),true,rfl,rfl,fun h=>(by cases h),?_,fun _=>⟨ho,eq_of_beq hr,Brx ho (eq_of_beq hr) (Bdw zq0 hk) rfl,rfl,rfl⟩⟩
 simp only[A9,Apt,Az6,List.length_replicate]
 omega
def HrH (c:Au) (c':Au) (z:Int):Prop:=(z≠0->c'=c)/\A9 c'<=A9 c+200/\(z=0->Cz c=true/\c.1=1/\Cz c'=true/\c'.1=c.1/\c'.2.1=c.2.1)
theorem A0a (c:Au) (n:YI) (p:YBs) (h:A9 c<=67000000): ∃c' z,Qq c n p=some (c',(z,()))/\V9 c n p=some (c',(z,()))/\HrH c c' z:=by
 have nope: ∃c' z,some (c,((6:Int),()))=some (c',(z,()))/\some (c,((6:Int),()))=some (c',(z,()))/\HrH c c' z:=⟨c,6,rfl,rfl,fun _=>rfl,by omega,fun h=>by cases h⟩
 have hc:=h
 simp only[A9]at hc
 obtain⟨t,b,t1,t2,t3,t4,t5⟩:=Bvv c h
 unfold Qq Ae3 V9 Ae5
 simp only[Af,Ah,Aa]
 rw[Uh c zq0,S5 c zq0,Wq c Ba9 Bba,S3 c,Cm,Cy,A3a,Anp,t1,t2]
 simp only[Ac,Gk,S1]
 cases ho:Cz c with
 |false=>exact nope
 |true=>
 simp only[Bool.not_true,Ao]
 cases hr:(c.1==(1:Int))with
 |false=>rw[show(c.1 != (1:Int))=true by unfold bne;rw[hr];rfl];exact nope
 |true=>
 rw[show(c.1 != (1:Int))=false by unfold bne;rw[hr];rfl,Ao,Ao]
 cases hn:inR n.1 0 4294967294 with
 |false=>exact nope
 |true=>
 simp only[Bool.not_true,Ao]
 cases hs:Cv p.1 (Vk (IntKind.i64.wrap (n.1+1)))with
 |false=>exact nope
 |true=>
 simp only[Bool.not_true,Ao]
 obtain⟨f1,f2,f3,f4,f5⟩:=Ir ho
 have f6:=(Fl f3).1
 have f6:0<=c.2.2.1/\c.2.2.1<=4294967295:=f6
 rw[w64 zq0]
 have same: ∃c' z,some (c,((0:Int),()))=some (c',(z,()))/\some (c,((0:Int),()))=some (c',(z,()))/\HrH c c' z:=⟨c,0,rfl,rfl,fun _=>rfl,by omega,fun _=>⟨ho,eq_of_beq hr,ho,rfl,rfl⟩⟩
 cases hA:(n.1==c.2.2.1-1)with
 |true=>
  have e1:=eq_of_beq hA
  rw[show(n.1==c.2.2.1)=false by simp;omega,A6,Ao,A6]
  exact same
 |false=>
  rw[Ao]
  cases hB:(n.1==c.2.2.1)with
  |false=>rw[show(n.1 != c.2.2.1)=true by unfold bne;rw[hB];rfl];exact nope
  |true=>
   rw[show(n.1 != c.2.2.1)=false by unfold bne;rw[hB];rfl,Ao,A6]
   cases b with
   |false=>exact nope
   |true=>exact⟨t,0,rfl,rfl,fun h=>(h rfl).elim,t4,fun _=>t5 rfl⟩
def Ju (s:Al) (X:Au) (P:Bn) (la:Int):Al:=(s.1,s.2.1,s.2.2.1,X.1,X.2.1,X.2.2.1,X.2.2.2.1,X.2.2.2.2.1,X.2.2.2.2.2.1,X.2.2.2.2.2.2.1,X.2.2.2.2.2.2.2.1,X.2.2.2.2.2.2.2.2.1,X.2.2.2.2.2.2.2.2.2.1,X.2.2.2.2.2.2.2.2.2.2.1,X.2.2.2.2.2.2.2.2.2.2.2.1,X.2.2.2.2.2.2.2.2.2.2.2.2.1,X.2.2.2.2.2.2.2.2.2.2.2.2.2.1,X.2.2.2.2.2.2.2.2.2.2.2.2.2.2.1,P.1,P.2.1,P.2.2.1,s.2.2.2.2.2.2.2.2.2.2.2.2.2.2.2.2.2.2.2.2.2.1,la,s.2.2.2.2.2.2.2.2.2.2.2.2.2.2.2.2.2.2.2.2.2.2.2.1,())
def SeH (s:Al) (m:Nat) (r:Al) (os:List Az) (ns:List Aq):Prop:=A5 r<=A5 s+900/\os.length+Br Ij os<=4*(A5 s+m+900)/\ns.length+Br Gm ns<=12*(A5 s+m+900)
theorem Bdz (s:Al) (X:Au) (P:Bn) (la:Int):A5 (Ju s X P la)+A9 (Cj s)+Bd (Bm s)=A5 s+A9 X+Bd P:=by
 simp only[A5,Ju,A9,Cj,Bd,Bm];omega
theorem A3g (s:Al) (n:YI) (a:A8) (f:Ap) (d:YBs) (h:A5 s<=8388608) (h2:Av f<=8388608) (h3:d.1.length<=8388608) (w1:wfB f.2.2.2.1) (w2:wfB (Cj s).2.1):
  ∃r os ns k,Jn s n a f d=some (r,(os,()),(ns,()),(k,()))/\Sz s n a f d=some (r,(os,()),(ns,()),(k,()))/\SeH s (Av f+d.1.length) r os ns:=by
 have none: ∃r os ns k,some (s,(([]:List Az),()),(([]:List Aq),()),(false,()))=some (r,(os,()),(ns,()),(k,()))/\some (s,(([]:List Az),()),(([]:List Aq),()),(false,()))=some (r,(os,()),(ns,()),(k,()))/\SeH s (Av f+d.1.length) r os ns:=⟨s,[],[],false,rfl,rfl,by omega,by simp[Br],by simp[Br]⟩
 have hch:=Ade s
 have hpa:=Az4 s
 have hck:=Fc (Cj s)
 have hsl:s.2.2.1.length<=A5 s:=by simp only[A5];omega
 have htl:=Vl 0 f
 obtain⟨ch,p,z,o1,o2,O1,O2,O3,O4⟩:=A3d (Cj s) n f zq0 zq0 w1 w2
 obtain⟨k,kb,y1,y2,y3,y4⟩:=Bdu (Cj s) (f.2.2.2.2.2.2.2.1,()) zq0
 have hchk:=Fc ch
 unfold Jn Zu Sz Aig
 simp only[Af,Ah,Aa,Ak,Apb,Apc,Abv,Apd,Ape,Apf,Ud]
 rw[Nd s zq0,Ad3 s zq0,Wr s zq0,Ai5 s zq0,Ik,Il]
 simp only[Ac]
 cases ho:Dk s with
 |false=>exact none
 |true=>
 simp only[Bool.not_true,Ao]
 by_cases hd0:s.2.2.2.2.2.2.2.2.2.2.2.2.2.2.2.2.2.2.2.2.2.2.2.1=true
 .rw[Dv hd0,Dv hd0];exact none
 have hd:s.2.2.2.2.2.2.2.2.2.2.2.2.2.2.2.2.2.2.2.2.2.2.2.1=false:=by simpa using hd0
 rw[C4 hd,C4 hd]
 cases ha:Cq a with
 |false=>exact none
 |true=>
 simp only[Bool.not_true,Ao]
 rw[show Ou _ n f=some (ch,(p,()),(z,()))from o1,show L4 _ n f=some (ch,(p,()),(z,()))from o2,show Aad _ (f.2.2.2.2.2.2.2.1,())=some ((k,()),(kb,()))from y1,show Af9 _ (f.2.2.2.2.2.2.2.1,())=some ((k,()),(kb,()))from y2,Ug _ _ zq0,Aan _ _ zq0]
 simp only[Ac]
 by_cases hz:z=0
 case neg=>
  rw[Dv (by simpa using hz),Dv (by simpa using hz)]
  exact none
 case pos=>
 subst hz
 rw[C4 (by rfl),C4 (by rfl),Apr _ _ _ zq0 zq0 zq0,Bie _ _ _ zq0 zq0 zq0]
 simp only[Ac]
 have d2:decide (s.2.2.1.length<=4294967296)=true:=Ai zq0
 have d4:decide (p.length<=4294967296)=true:=Ai zq0
 have tail: ∀(X:Au) (P:Bn) (os:List Az) (ns:List Aq) (p':Bn) (b:Bool) (y:Au) (g:Ap) (zz:Int),A9 X<=A9 (Cj s)+400->Bd P<=Bd (Bm s)+50->A9 y<=A9 (Cj s)+400->Bd p'<=Bd (Bm s)+100->Av g<=A5 s+d.1.length+432->
   os.length+Br Ij os<=2*(A5 s+(Av f+d.1.length)+900)->ns.length+Br Gm ns<=8*(A5 s+(Av f+d.1.length)+900)->
   ∃r os' ns' k,br (!b) (some (Ju s X P n.1,(os,()),(ns,()),(false,()))) (br (zz != (0:Int)) (some (Ju s X P n.1,(os,()),(ns,()),(false,()))) (some (Ju s y p' n.1,(os++[(a.1,a.2.1,g.1,g.2.1,g.2.2.1,g.2.2.2.1,g.2.2.2.2.1,g.2.2.2.2.2.1,g.2.2.2.2.2.2.1,g.2.2.2.2.2.2.2.1,g.2.2.2.2.2.2.2.2.1,g.2.2.2.2.2.2.2.2.2.1,g.2.2.2.2.2.2.2.2.2.2.1,())],()),(ns++[Hd y g],()),(true,()))))=some (r,(os',()),(ns',()),(k,()))/\
    br (!b) (some (Ju s X P n.1,(os,()),(ns,()),(false,()))) (br (zz != (0:Int)) (some (Ju s X P n.1,(os,()),(ns,()),(false,()))) (some (Ju s y p' n.1,(os++[(a.1,a.2.1,g.1,g.2.1,g.2.2.1,g.2.2.2.1,g.2.2.2.2.1,g.2.2.2.2.2.1,g.2.2.2.2.2.2.1,g.2.2.2.2.2.2.2.1,g.2.2.2.2.2.2.2.2.1,g.2.2.2.2.2.2.2.2.2.1,g.2.2.2.2.2.2.2.2.2.2.1,())],()),(ns++[Hd y g],()),(true,()))))=some (r,(os',()),(ns',()),(k,()))/\SeH s (Av f+d.1.length) r os' ns':=by
  intro X P os ns p' b y g zz h1 h2 h3 h4 h5 h6 h7
  have e1:=Bdz s X P n.1
  have e2:=Bdz s y p' n.1
  have e3:=Vl y.1 g
  have e4:=Fc y
  cases b with
  |false=>exact⟨_,_,_,_,rfl,rfl,by omega,by omega,by omega⟩
  |true=>
   simp only[Bool.not_true,Ao]
   cases hzz:(zz != (0:Int))with
   |true=>exact⟨_,_,_,_,rfl,rfl,by omega,by omega,by omega⟩
   |false=>
    refine⟨_,_,_,_,rfl,rfl,by omega,?_,?_⟩
    .simp only[Pu,Br,Ij,List.length_append,List.length_nil,List.length_cons]
     simp only[Av]at*
     omega
    .simp only[Pu,Br,List.length_append,List.length_nil,List.length_cons]
     have e5:Gm (Hd y g)=y.2.2.2.1.length+(D9 y.1 g).length:=by simp only[Gm,Hd,L9,List.length_nil];omega
     omega
 simp only[List.length_nil,List.nil_append,List.length_cons,Nat.zero_add,Nat.reduceLeDiff,decide_true,Ay]
 cases h4:(f.1==(4:Int))with
 |true=>
  simp (disch:=first|omega|(dsimp only;omega)) only[A6,Cb]
  obtain⟨p',b,of1,of2,OF1,OF2,OF3⟩:=Kf (Bm s) n a d zq0
  obtain⟨y,g,zz,g1,g2,e',GS1,GS2,GS3,_⟩:=G6 (ch) 5 d.1 zq0
  have hyk:=Fc y
  rw[show Do _ n a d=some (p',(b,()))from of1,show E6 _ n a d=some (p',(b,()))from of2,show Ct _ (5,()) d=some (y,g,(zz,()))from g1,show Du _ (5,()) d=some (y,g,(zz,()))from g2]
  simp only[Ac]
  rw[Iq y g zq0 zq0,Js y g zq0 zq0]
  simp only[Ac,List.length_nil,List.nil_append,List.append_nil,List.length_cons,List.length_append,Nat.zero_add,Nat.reduceAdd,Nat.reduceLeDiff,decide_true,Ay,d2,d4]
  exact tail (ch) (Bm s) ([]) ([Hs k s.2.2.1 (D9 0 f),((6:Int),(0:Int),(0:Int),([]:List YB),s.2.2.1,f.2.2.2.2.2.2.2.1,f.2.2.2.2.2.2.2.2.1,p,([]:List YB),(0:Int),(0:Int),n.1,())]) p' b y g zz zq0 zq0 zq0 zq0 zq0 (by simp only[Br,Ij,List.length_nil,List.length_cons];simp only[Av]at*;omega) (by simp only[Br,Gm,Hs,Hd,L9,List.length_nil,List.length_cons];omega)
 |false=>
 simp only[Ao]
 cases h6:(f.1==(6:Int))with
 |true=>
  simp only[A6]
  obtain⟨pa,ab,an1,an2,AN1,AN2,AN3⟩:=Az9 (Bm s) n a (p,()) zq0
  rw[show Pr _ n a (p,())=some (pa,(ab,()))from an1,show Aga _ n a (p,())=some (pa,(ab,()))from an2]
  simp only[Ac]
  cases ab with
  |true=>
   simp (disch:=first|omega|(dsimp only;omega)) only[A6,Cb]
   obtain⟨p',b,of1,of2,OF1,OF2,OF3⟩:=Kf (pa) n a d zq0
   obtain⟨y,g,zz,g1,g2,e',GS1,GS2,GS3,_⟩:=G6 (ch) 5 d.1 zq0
   have hyk:=Fc y
   rw[show Do _ n a d=some (p',(b,()))from of1,show E6 _ n a d=some (p',(b,()))from of2,show Ct _ (5,()) d=some (y,g,(zz,()))from g1,show Du _ (5,()) d=some (y,g,(zz,()))from g2]
   simp only[Ac]
   rw[Iq y g zq0 zq0,Js y g zq0 zq0]
   simp only[Ac,List.length_nil,List.nil_append,List.append_nil,List.length_cons,List.length_append,Nat.zero_add,Nat.reduceAdd,Nat.reduceLeDiff,decide_true,Ay,d2,d4]
   exact tail (ch) (pa) ([]) ([Hs k s.2.2.1 (D9 0 f),((9:Int),(0:Int),(0:Int),([]:List YB),s.2.2.1,(0:Int),(0:Int),p,([]:List YB),a.1,a.2.1,n.1,())]) p' b y g zz zq0 zq0 zq0 zq0 zq0 (by simp only[Br,Ij,List.length_nil,List.length_cons];simp only[Av]at*;omega) (by simp only[Br,Gm,Hs,Hd,L9,List.length_nil,List.length_cons];omega)
  |false=>
   simp only[Ao]
   obtain⟨p',b,of1,of2,OF1,OF2,OF3⟩:=Kf (Bm s) n a d zq0
   obtain⟨y,g,zz,g1,g2,e',GS1,GS2,GS3,_⟩:=G6 (ch) 5 d.1 zq0
   have hyk:=Fc y
   rw[show Do _ n a d=some (p',(b,()))from of1,show E6 _ n a d=some (p',(b,()))from of2,show Ct _ (5,()) d=some (y,g,(zz,()))from g1,show Du _ (5,()) d=some (y,g,(zz,()))from g2]
   simp only[Ac]
   rw[Iq y g zq0 zq0,Js y g zq0 zq0]
   simp only[Ac,List.length_nil,List.nil_append,List.append_nil,List.length_cons,List.length_append,Nat.zero_add,Nat.reduceAdd,Nat.reduceLeDiff,decide_true,Ay,d2,d4]
   exact tail (ch) (Bm s) ([]) ([Hs k s.2.2.1 (D9 0 f)]) p' b y g zz zq0 zq0 zq0 zq0 zq0 (by simp only[Br,Ij,List.length_nil,List.length_cons];simp only[Av]at*;omega) (by simp only[Br,Gm,Hs,Hd,L9,List.length_nil,List.length_cons];omega)
 |false=>
 simp only[Ao]
 cases h7:(f.1==(7:Int))with
 |false=>
  simp only[Ao]
  obtain⟨p',b,of1,of2,OF1,OF2,OF3⟩:=Kf (Bm s) n a d zq0
  obtain⟨y,g,zz,g1,g2,e',GS1,GS2,GS3,_⟩:=G6 (ch) 5 d.1 zq0
  have hyk:=Fc y
  rw[show Do _ n a d=some (p',(b,()))from of1,show E6 _ n a d=some (p',(b,()))from of2,show Ct _ (5,()) d=some (y,g,(zz,()))from g1,show Du _ (5,()) d=some (y,g,(zz,()))from g2]
  simp only[Ac]
  rw[Iq y g zq0 zq0,Js y g zq0 zq0]
  simp only[Ac,List.length_nil,List.nil_append,List.append_nil,List.length_cons,List.length_append,Nat.zero_add,Nat.reduceAdd,Nat.reduceLeDiff,decide_true,Ay,d2,d4]
  exact tail (ch) (Bm s) ([]) ([Hs k s.2.2.1 (D9 0 f)]) p' b y g zz zq0 zq0 zq0 zq0 zq0 (by simp only[Br,Ij,List.length_nil,List.length_cons];simp only[Av]at*;omega) (by simp only[Br,Gm,Hs,Hd,L9,List.length_nil,List.length_cons];omega)
 |true=>
 simp only[A6]
 obtain⟨X,zr,r1,r2,R1,R2,R3⟩:=A0a ch (f.2.2.2.2.2.2.2.1,()) (p,()) zq0
 have hXk:=Fc X
 have d5:decide (X.2.2.2.1.length<=4294967296)=true:=Ai zq0
 unfold V8 V2
 simp only[Af,Ah,Aa,Ak]
 rw[show Qq _ (f.2.2.2.2.2.2.2.1,()) (p,())=some (X,(zr,()))from r1,show V9 _ (f.2.2.2.2.2.2.2.1,()) (p,())=some (X,(zr,()))from r2]
 simp only[Ac,bne]
 cases hzr:(zr==(0:Int))with
 |false=>
  simp only[Bool.not_false,A6,Ao,Ac]
  obtain⟨p',b,of1,of2,OF1,OF2,OF3⟩:=Kf (Bm s) n a d zq0
  obtain⟨y,g,zz,g1,g2,e',GS1,GS2,GS3,_⟩:=G6 (ch) 5 d.1 zq0
  have hyk:=Fc y
  rw[show Do _ n a d=some (p',(b,()))from of1,show E6 _ n a d=some (p',(b,()))from of2,show Ct _ (5,()) d=some (y,g,(zz,()))from g1,show Du _ (5,()) d=some (y,g,(zz,()))from g2]
  simp only[Ac]
  rw[Iq y g zq0 zq0,Js y g zq0 zq0]
  simp only[Ac,List.length_nil,List.nil_append,List.append_nil,List.length_cons,List.length_append,Nat.zero_add,Nat.reduceAdd,Nat.reduceLeDiff,decide_true,Ay,d2,d4]
  exact tail (ch) (Bm s) ([]) ([Hs k s.2.2.1 (D9 0 f)]) p' b y g zz zq0 zq0 zq0 zq0 zq0 (by simp only[Br,Ij,List.length_nil,List.length_cons];simp only[Av]at*;omega) (by simp only[Br,Gm,Hs,Hd,L9,List.length_nil,List.length_cons];omega)
 |true=>
 simp only[Bool.not_true,A6,Ao]
 obtain⟨y',g',za,k1,k2,K1,K2,_⟩:=A83 X zq0
 have hyk':=Fc y'
 have htl2:=Vl y'.1 g'
 rw[k1,k2]
 simp only[Ac]
 rw[Iq y' g' zq0 zq0,Js y' g' zq0 zq0]
 cases hN:(X.2.2.1==ch.2.2.1)with
 |false=>
  simp (disch:=first|omega|(dsimp only;omega)) only[Bool.not_false,A6,Ao,Cb,Ac]
  cases hza:(za==(0:Int))with
  |true=>
   simp only[Bool.not_true,A6,Ao,Ac,List.length_nil,List.nil_append,List.length_cons,List.length_append,Nat.zero_add,Nat.reduceAdd,Nat.reduceLeDiff,decide_true,Ay,d2,d5]
   obtain⟨p',b,of1,of2,OF1,OF2,OF3⟩:=Kf (Bm s) n a d zq0
   obtain⟨y,g,zz,g1,g2,e',GS1,GS2,GS3,_⟩:=G6 (y') 5 d.1 zq0
   have hyk:=Fc y
   rw[show Do _ n a d=some (p',(b,()))from of1,show E6 _ n a d=some (p',(b,()))from of2,show Ct _ (5,()) d=some (y,g,(zz,()))from g1,show Du _ (5,()) d=some (y,g,(zz,()))from g2]
   simp only[Ac]
   rw[Iq y g zq0 zq0,Js y g zq0 zq0]
   simp only[Ac,List.length_nil,List.nil_append,List.append_nil,List.length_cons,List.length_append,Nat.zero_add,Nat.reduceAdd,Nat.reduceLeDiff,decide_true,Ay,d2,d4]
   exact tail (y') (Bm s) ([(s.2.2.2.2.2.2.2.2.2.2.2.2.2.2.2.2.2.2.1,s.2.2.2.2.2.2.2.2.2.2.2.2.2.2.2.2.2.2.2.1,g'.1,g'.2.1,g'.2.2.1,g'.2.2.2.1,g'.2.2.2.2.1,g'.2.2.2.2.2.1,g'.2.2.2.2.2.2.1,g'.2.2.2.2.2.2.2.1,g'.2.2.2.2.2.2.2.2.1,g'.2.2.2.2.2.2.2.2.2.1,g'.2.2.2.2.2.2.2.2.2.2.1,())]) ([Hs k s.2.2.1 (D9 0 f),((10:Int),(0:Int),(1:Int),([]:List YB),s.2.2.1,X.2.2.1,(0:Int),([]:List YB),X.2.2.2.1,(0:Int),(0:Int),(0:Int),()),Hd y' g']) p' b y g zz zq0 zq0 zq0 zq0 zq0 (by simp only[Br,Ij,List.length_nil,List.length_cons];simp only[Av]at*;omega) (by simp only[Br,Gm,Hs,Hd,L9,List.length_nil,List.length_cons];omega)
  |false=>
   simp only[Bool.not_false,A6,Ao,Ac,List.length_nil,List.nil_append,List.length_cons,List.length_append,Nat.zero_add,Nat.reduceAdd,Nat.reduceLeDiff,decide_true,Ay,d2,d5]
   obtain⟨p',b,of1,of2,OF1,OF2,OF3⟩:=Kf (Bm s) n a d zq0
   obtain⟨y,g,zz,g1,g2,e',GS1,GS2,GS3,_⟩:=G6 (X) 5 d.1 zq0
   have hyk:=Fc y
   rw[show Do _ n a d=some (p',(b,()))from of1,show E6 _ n a d=some (p',(b,()))from of2,show Ct _ (5,()) d=some (y,g,(zz,()))from g1,show Du _ (5,()) d=some (y,g,(zz,()))from g2]
   simp only[Ac]
   rw[Iq y g zq0 zq0,Js y g zq0 zq0]
   simp only[Ac,List.length_nil,List.nil_append,List.append_nil,List.length_cons,List.length_append,Nat.zero_add,Nat.reduceAdd,Nat.reduceLeDiff,decide_true,Ay,d2,d4]
   exact tail (X) (Bm s) ([]) ([Hs k s.2.2.1 (D9 0 f),((10:Int),(0:Int),(1:Int),([]:List YB),s.2.2.1,X.2.2.1,(0:Int),([]:List YB),X.2.2.2.1,(0:Int),(0:Int),(0:Int),())]) p' b y g zz zq0 zq0 zq0 zq0 zq0 (by simp only[Br,Ij,List.length_nil,List.length_cons];simp only[Av]at*;omega) (by simp only[Br,Gm,Hs,Hd,L9,List.length_nil,List.length_cons];omega)
 |true=>
  simp only[Bool.not_true,A6,Ao,Ac]
  cases hza:(za==(0:Int))with
  |true=>
   simp only[Bool.not_true,A6,Ao,Ac,List.length_nil,List.nil_append,List.length_cons,List.length_append,Nat.zero_add,Nat.reduceAdd,Nat.reduceLeDiff,decide_true,Ay,d2,d5]
   obtain⟨p',b,of1,of2,OF1,OF2,OF3⟩:=Kf (Bm s) n a d zq0
   obtain⟨y,g,zz,g1,g2,e',GS1,GS2,GS3,_⟩:=G6 (y') 5 d.1 zq0
   have hyk:=Fc y
   rw[show Do _ n a d=some (p',(b,()))from of1,show E6 _ n a d=some (p',(b,()))from of2,show Ct _ (5,()) d=some (y,g,(zz,()))from g1,show Du _ (5,()) d=some (y,g,(zz,()))from g2]
   simp only[Ac]
   rw[Iq y g zq0 zq0,Js y g zq0 zq0]
   simp only[Ac,List.length_nil,List.nil_append,List.append_nil,List.length_cons,List.length_append,Nat.zero_add,Nat.reduceAdd,Nat.reduceLeDiff,decide_true,Ay,d2,d4]
   exact tail (y') (Bm s) ([(s.2.2.2.2.2.2.2.2.2.2.2.2.2.2.2.2.2.2.1,s.2.2.2.2.2.2.2.2.2.2.2.2.2.2.2.2.2.2.2.1,g'.1,g'.2.1,g'.2.2.1,g'.2.2.2.1,g'.2.2.2.2.1,g'.2.2.2.2.2.1,g'.2.2.2.2.2.2.1,g'.2.2.2.2.2.2.2.1,g'.2.2.2.2.2.2.2.2.1,g'.2.2.2.2.2.2.2.2.2.1,g'.2.2.2.2.2.2.2.2.2.2.1,())]) ([Hs k s.2.2.1 (D9 0 f),Hd y' g']) p' b y g zz zq0 zq0 zq0 zq0 zq0 (by simp only[Br,Ij,List.length_nil,List.length_cons];simp only[Av]at*;omega) (by simp only[Br,Gm,Hs,Hd,L9,List.length_nil,List.length_cons];omega)
  |false=>
   simp only[Bool.not_false,A6,Ao,Ac,List.length_nil,List.nil_append,List.length_cons,List.length_append,Nat.zero_add,Nat.reduceAdd,Nat.reduceLeDiff,decide_true,Ay,d2,d5]
   obtain⟨p',b,of1,of2,OF1,OF2,OF3⟩:=Kf (Bm s) n a d zq0
   obtain⟨y,g,zz,g1,g2,e',GS1,GS2,GS3,_⟩:=G6 (X) 5 d.1 zq0
   have hyk:=Fc y
   rw[show Do _ n a d=some (p',(b,()))from of1,show E6 _ n a d=some (p',(b,()))from of2,show Ct _ (5,()) d=some (y,g,(zz,()))from g1,show Du _ (5,()) d=some (y,g,(zz,()))from g2]
   simp only[Ac]
   rw[Iq y g zq0 zq0,Js y g zq0 zq0]
   simp only[Ac,List.length_nil,List.nil_append,List.append_nil,List.length_cons,List.length_append,Nat.zero_add,Nat.reduceAdd,Nat.reduceLeDiff,decide_true,Ay,d2,d4]
   exact tail (X) (Bm s) ([]) ([Hs k s.2.2.1 (D9 0 f)]) p' b y g zz zq0 zq0 zq0 zq0 zq0 (by simp only[Br,Ij,List.length_nil,List.length_cons];simp only[Av]at*;omega) (by simp only[Br,Gm,Hs,Hd,L9,List.length_nil,List.length_cons];omega)
end
end Go.Proofs.YthccfdmiejmbaaaGreat
