/-
  That the program and the reference answer alike, in plain terms, and that the laws answer true.
-/
import Derived.Test.YtnbbbaplphcebaaGreatG1
namespace Go.Proofs.YtnbbbaplphcebaaGreat
open Go.RowKit
set_option linter.unusedVariables false
set_option linter.unusedSimpArgs false
set_option maxRecDepth 100000
set_option maxHeartbeats 8000000
noncomputable section
def Bju (b:Int):Int:=IntKind.i64.wrap ((1:Int)*2^(min b.toNat IntKind.i64.bits))
def A59 (w b:Int):Int:=IntKind.i64.wrap ((BitVec.ofInt IntKind.i64.bits w &&& ~~~ BitVec.ofInt IntKind.i64.bits (Bju b)).toNat:Nat)
def Ag4 (w b:Int):Int:=IntKind.i64.wrap ((BitVec.ofInt IntKind.i64.bits w ||| BitVec.ofInt IntKind.i64.bits (Bju b)).toNat:Nat)
theorem Bhh {b:Nat} (h:b<32):Bju (b:Int)=((2^b:Nat):Int):=by
 unfold Bju
 rw[show min (Int.toNat (b:Int)) IntKind.i64.bits=b by rw[Int.toNat_natCast];show min b 64=b;omega]
 have h1:(2:Nat)^b<=2^31:=Nat.pow_le_pow_right zq7 zq0
 have h2:((1:Int)*2^b)=((2^b:Nat):Int):=by push_cast;omega
 rw[h2]
 generalize (2:Nat)^b=N at h1 ⊢
 exact w64 zq0
theorem Ou (n:Nat):BitVec.ofInt IntKind.i64.bits (n:Int)=BitVec.ofNat 64 n:=by
 show BitVec.ofInt 64 (n:Int)=_
 simp
theorem Bqt {w b:Nat} (hw:w<4294967296) (hb:b<32): ∃r:Nat,A59 (w:Int) (b:Int)=(r:Int)/\r<4294967296/\ ∀j,r.testBit j=(w.testBit j && !decide (j=b)):=by
 unfold A59
 rw[Bhh hb,Ou,Ou]
 refine⟨(BitVec.ofNat 64 w &&& ~~~ BitVec.ofNat 64 (2^b)).toNat,?_,?_,fun j=>?_⟩
 .have h1:(BitVec.ofNat 64 w &&& ~~~ BitVec.ofNat 64 (2^b)).toNat<=w:=by
   rw[BitVec.toNat_and]
   refine Nat.le_trans Nat.and_le_left ?_
   rw[BitVec.toNat_ofNat];exact Nat.mod_le _ _
  show IntKind.i64.wrap (((BitVec.ofNat 64 w &&& ~~~ BitVec.ofNat 64 (2^b)).toNat:Nat):Int)=_
  exact w64 zq0
 .have h1:(BitVec.ofNat 64 w &&& ~~~ BitVec.ofNat 64 (2^b)).toNat<=w:=by
   rw[BitVec.toNat_and]
   refine Nat.le_trans Nat.and_le_left ?_
   rw[BitVec.toNat_ofNat];exact Nat.mod_le _ _
  omega
 .rw[show((BitVec.ofNat 64 w &&& ~~~ BitVec.ofNat 64 (2^b)).toNat).testBit j=(BitVec.ofNat 64 w &&& ~~~ BitVec.ofNat 64 (2^b)).getLsbD j from rfl]
  rw[BitVec.getLsbD_and,BitVec.getLsbD_not,BitVec.getLsbD_ofNat,BitVec.getLsbD_ofNat,Nat.testBit_two_pow]
  by_cases hj:j<64
  .rw[show decide (j<64)=true from decide_eq_true hj]
   simp only[Bool.true_and]
   congr 2
   simp[eq_comm]
  .have:w.testBit j=false:=Nat.testBit_lt_two_pow (Nat.lt_of_lt_of_le hw (Nat.le_trans (by decide:4294967296<=2^64) (Nat.pow_le_pow_right zq7 zq0)))
   rw[this];simp
theorem A6a {w b:Nat} (hw:w<4294967296) (hb:b<32): ∃r:Nat,Ag4 (w:Int) (b:Int)=(r:Int)/\r<4294967296/\ ∀j,r.testBit j=(w.testBit j || decide (j=b)):=by
 unfold Ag4
 rw[Bhh hb,Ou,Ou]
 have hlt:(BitVec.ofNat 64 w ||| BitVec.ofNat 64 (2^b)).toNat<2^32:=by
  rw[BitVec.toNat_or]
  refine Nat.or_lt_two_pow ?_ ?_
  .rw[BitVec.toNat_ofNat];exact Nat.lt_of_le_of_lt (Nat.mod_le _ _) hw
  .rw[BitVec.toNat_ofNat];exact Nat.lt_of_le_of_lt (Nat.mod_le _ _) (Nat.pow_lt_pow_right zq7 hb)
 refine⟨(BitVec.ofNat 64 w ||| BitVec.ofNat 64 (2^b)).toNat,?_,hlt,fun j=>?_⟩
 .show IntKind.i64.wrap (((BitVec.ofNat 64 w ||| BitVec.ofNat 64 (2^b)).toNat:Nat):Int)=_
  exact w64 zq0
 .rw[show((BitVec.ofNat 64 w ||| BitVec.ofNat 64 (2^b)).toNat).testBit j=(BitVec.ofNat 64 w ||| BitVec.ofNat 64 (2^b)).getLsbD j from rfl]
  rw[BitVec.getLsbD_or,BitVec.getLsbD_ofNat,BitVec.getLsbD_ofNat,Nat.testBit_two_pow]
  by_cases hj:j<64
  .rw[show decide (j<64)=true from decide_eq_true hj]
   simp only[Bool.true_and]
   congr 1
   simp[eq_comm]
  .have h1:w.testBit j=false:=Nat.testBit_lt_two_pow (Nat.lt_of_lt_of_le hw (Nat.le_trans (by decide:4294967296<=2^64) (Nat.pow_le_pow_right zq7 zq0)))
   have h2:decide (j=b)=false:=decide_eq_false zq0
   rw[h1,h2];simp[hj]
def Ix (l:List YI):Prop:=l.length=32/\ ∀(q:Nat) (x:YI),l[q]? =some x->0<=x.1/\x.1<4294967296
def Aaj (l:List YI) (r:Nat):Bool:=((l[r/32]?.getD (0,())).1.toNat).testBit (r%32)
theorem Bmm {l m:List YI} (h:Ix l) (k:Ix m) (hb: ∀r,r<1024->Aaj l r=Aaj m r):l=m:=by
 apply List.ext_getElem?
 intro q
 by_cases hq:q<32
 .have hql:q<l.length:=by rw[h.1];exact hq
  have hqm:q<m.length:=by rw[k.1];exact hq
  have hx:=List.getElem?_eq_getElem hql
  have hy:=List.getElem?_eq_getElem hqm
  have h1:=h.2 q _ hx
  have h2:=k.2 q _ hy
  have he:l[q].1.toNat=m[q].1.toNat:=by
   apply Nat.eq_of_testBit_eq
   intro j
   by_cases hj:j<32
   .have:=hb (32*q+j) zq0
    unfold Aaj at this
    rw[show(32*q+j)/32=q by omega,show(32*q+j)%32=j by omega,hx,hy]at this
    exact this
   .have e: ∀n:Nat,n<4294967296->n.testBit j=false:=fun n hn=>Nat.testBit_lt_two_pow (Nat.lt_of_lt_of_le hn (Nat.le_trans (by decide:4294967296<=2^32) (Nat.pow_le_pow_right zq7 zq0)))
    rw[e _ zq0,e _ zq0]
  rw[hx,hy]
  have he2:l[q].1=m[q].1:=by omega
  have:l[q]=m[q]:=Prod.ext he2 rfl
  rw[this]
 .rw[List.getElem?_eq_none (by rw[h.1];omega),List.getElem?_eq_none (by rw[k.1];omega)]
def Pe (f:Int->Int->Int) (l:List YI) (n:Int):List YI:=l.set ((n%1024)/32).toNat (f (l[((n%1024)/32).toNat]?.getD (0,())).1 (n%32),())
theorem Aws {f:Int->Int->Int} {g:Bool->Bool->Bool} (hf: ∀ {w b:Nat},w<4294967296->b<32-> ∃r:Nat,f (w:Int) (b:Int)=(r:Int)/\r<4294967296/\ ∀j,r.testBit j=g (w.testBit j) (decide (j=b))) (hg: ∀x,g x false=x)
  {l:List YI} (h:Ix l) {n:Int} (h0:0<=n):Ix (Pe f l n)/\ ∀r,r<1024->Aaj (Pe f l n) r=g (Aaj l r) (decide ((r:Int)=n%1024)):=by
 obtain⟨m,rfl⟩:=Int.eq_ofNat_of_zero_le h0
 have hq:((m:Int)%1024/32).toNat=m%1024/32:=by omega
 have hlt:m%1024/32<l.length:=by rw[h.1];omega
 have hx:=List.getElem?_eq_getElem hlt
 have hw:=h.2 _ _ hx
 obtain⟨r,r1,r2,r3⟩:=hf (w:=l[m%1024/32].1.toNat) (b:=m%32) zq0 zq0
 have hval:f (l[m%1024/32]?.getD (0,())).1 ((m:Int)%32)=(r:Int):=by
  rw[hx]
  show f l[m%1024/32].1 ((m:Int)%32)=_
  rw[<-r1]
  congr 1<;>omega
 have ht:Pe f l (m:Int)=l.set (m%1024/32) ((r:Int),()):=by
  unfold Pe
  rw[hq,hval]
 rw[ht]
 refine⟨⟨by rw[List.length_set];exact h.1,fun q x hx'=>?_⟩,fun k hk=>?_⟩
 .rw[List.getElem?_set]at hx'
  split at hx'
  .simp only[Option.some.injEq]at hx'
   subst hx'
   exact⟨by simp,by simp;omega⟩
  .exact h.2 q x hx'
 .unfold Aaj
  rw[List.getElem?_set]
  by_cases hk2:m%1024/32=k/32
  .rw[if_pos hk2,if_pos hlt]
   show r.testBit (k%32)=_
   rw[r3,hk2.symm,hx]
   show g _ _=g _ _
   congr 1
   apply decide_eq_decide.2
   omega
  .rw[if_neg hk2]
   rw[show decide ((k:Int)=(m:Int)%1024)=false from decide_eq_false zq0,hg]
def Nl (l:List YI) (s:Int):Nat->List YI
 |0=>l
 |m+1=>Pe A59 (Nl l s m) (s+m)
theorem We {l:List YI} (h:Ix l) {s:Int} (h0:0<=s): ∀m:Nat,Ix (Nl l s m)/\ ∀r,r<1024->Aaj (Nl l s m) r=(Aaj l r && decide (∀k:Nat,k<m->(r:Int)≠(s+k)%1024))
 |0=>⟨h,fun r _=>by simp[Nl]⟩
 |m+1=>by
  obtain⟨h1,h2⟩:=We h h0 m
  obtain⟨h3,h4⟩:=Aws (f:=A59) (g:=fun x y=>x && !y) (fun hw hb=>Bqt hw hb) (fun x=>by simp) h1 (n:=s+m) zq0
  refine⟨h3,fun r hr=>?_⟩
  show Aaj (Pe A59 (Nl l s m) (s+m)) r=_
  rw[h4 r hr,h2 r hr,Bool.and_assoc]
  congr 1
  rw[<-decide_not,<-Bool.decide_and]
  apply decide_eq_decide.2
  constructor
  .rintro⟨a,b⟩ k hk
   rcases Nat.lt_or_ge k m with h|h
   .exact a k h
   .rw[show k=m by omega];exact b
  .intro a
   exact⟨fun k hk=>a k zq0,a m zq0⟩
theorem Br2 {l:List YI} (h:Ix l) {s1 s2 n:Int} {m1 m2:Nat} (h1:0<=s1) (h2:0<=s2) (hn:0<=n)
  (he: ∀r:Nat,r<1024->(r:Int)≠n%1024->((∀k:Nat,k<m1->(r:Int)≠(s1+k)%1024)↔ ∀k:Nat,k<m2->(r:Int)≠(s2+k)%1024)):
  Pe Ag4 (Nl l s1 m1) n=Pe Ag4 (Nl l s2 m2) n:=by
 obtain⟨a1,a2⟩:=We h h1 m1
 obtain⟨b1,b2⟩:=We h h2 m2
 obtain⟨a3,a4⟩:=Aws (f:=Ag4) (g:=fun x y=>x || y) (fun hw hb=>A6a hw hb) (fun x=>by simp) a1 hn
 obtain⟨b3,b4⟩:=Aws (f:=Ag4) (g:=fun x y=>x || y) (fun hw hb=>A6a hw hb) (fun x=>by simp) b1 hn
 refine Bmm a3 b3 fun r hr=>?_
 rw[a4 r hr,b4 r hr,a2 r hr,b2 r hr]
 by_cases hrn:(r:Int)=n%1024
 .rw[show decide ((r:Int)=n%1024)=true from decide_eq_true hrn];simp
 .rw[show decide ((r:Int)=n%1024)=false from decide_eq_false hrn]
  simp only[Bool.or_false]
  congr 1
  exact decide_eq_decide.2 (he r hr hrn)
theorem Aqv {l:List YI} (h:Ix l) {n:Int} (h0:0<=n):idx l (n%1024/32)=some (l[((n%1024)/32).toNat]?.getD (0,())):=by
 have hlt:((n%1024)/32).toNat<l.length:=by rw[h.1];omega
 unfold idx
 rw[if_pos zq0,List.getElem?_eq_getElem hlt];rfl
theorem Acf {w:Dk} (h:Ip w=true):Ix w.2.1/\ -1<=w.1/\w.1<=281474976710655:=by
 unfold Ip at h
 simp only[Bool.and_eq_true]at h
 have h1:=Bj.1 h.1
 refine⟨⟨by have:=h.2.1.2;simp at this;omega,fun q x hx=>?_⟩,h1.1,h1.2⟩
 have:=Aeb.1 h.2.1.1 q x hx
 omega
def Jg (w:Dk) (n:Int):Bool:=Ip w && (inR n 0 281474976710655 && (decide (n>w.1) || (decide (n≥w.1-1023) && !Adb w n)))
theorem Bor (w:Dk) (n:YI) (hl:w.2.1.length<=4294967296):Ap7 w n=some (Jg w n.1,()):=by
 unfold Ap7 Apf Jg
 simp only[Af,Ag,Aa]
 rw[Bg8 w hl,Cd]
 simp only[Ae]
 cases ho:Ip w with
 |false=>rfl
 |true=>
  obtain⟨h1,h2,h3⟩:=Acf ho
  cases hn:inR n.1 0 281474976710655 with
  |false=>rfl
  |true=>
   have hn':=Bj.1 hn
   simp only[Bool.not_true,Ao]
   rw[w64 (n:=w.1-1024) zq0,w64 zq0,A0u w n h1.1 hn'.1,show w.1-1024+1=w.1-1023 by omega]
   cases decide (n.1>w.1)<;>cases decide (n.1≥w.1-1023)<;>rfl
theorem Bc3 (w:Dk) (n:YI) (hl:w.2.1.length<=4294967296):Adz w n=some (Jg w n.1,()):=by
 unfold Adz Anx Jg Ayt Ajj
 simp only[Af,Ag,Aa]
 rw[Bg9 w,Cq]
 simp only[Ae]
 cases ho:Ip w with
 |false=>rfl
 |true=>
  obtain⟨h1,h2,h3⟩:=Acf ho
  cases hn:inR n.1 0 281474976710655 with
  |false=>rfl
  |true=>
   have hn':=Bj.1 hn
   simp only[Bool.not_true,Ao]
   rw[w64 (n:=w.1-1024) zq0,w64 zq0,A53 w n h1.1 hn'.1,show w.1-1024+1=w.1-1023 by omega]
   simp only[Ae]
   by_cases hg:n.1>w.1
   .rw[Al hg];rfl
   .rw[Bp hg]
    by_cases ht:w.1<1024
    .rw[Al ht,A9,Ae]
     simp only
     rw[Al (p:=n.1≥0) zq0,Al (p:=n.1≥w.1-1023) zq0];rfl
    .rw[Bp ht]
     simp only[Ao,Ae]
     cases decide (n.1≥w.1-1023)<;>rfl
theorem Bmn {l:List YI} (h:Ix l) (n s t:Int) (l0:List YI) (t':Int) (m:Nat) (h0:0<=s) (hm:s+m=n\/(m=0/\n<=s)) (hn:n<=281474976710656) (hs:s<=281474976710656):
  Ay N4 (n,s,t,l0,(0:Int),([]:List YI),t',l,())=some (n,t,l0,(0:Int),([]:List YI),t',Nl l s m,()):=by
 have hl:=Ct (B:=N4) m (fun i=>(n,s+(i:Int),t,l0,(0:Int),([]:List YI),t',Nl l s i,())) (n,t,l0,(0:Int),([]:List YI),t',Nl l s m,())
  (fun i hi=>by
   have hw:=(We h h0 i).1
   have hx:=Aqv hw (n:=s+(i:Int)) zq0
   unfold N4
   simp only[Af,Ag,Aa,Aj]
   rw[Al (p:=s+(i:Int)<n) zq0,A9,Al (p:=(0:Int)<=s+(i:Int)) zq0,Al (p:=(0:Int)<=(s+(i:Int))%1024) zq0,Al (p:=(0:Int)<=(s+(i:Int))%32) zq0,hx,w64 (n:=s+(i:Int)+1) zq0]
   simp only[Ae,Ba]
   rw[show s+((i+1:Nat):Int)=s+(i:Int)+1 by push_cast;omega]
   rfl)
  (by
   unfold N4
   simp only[Af,Ag,Aa,Aj]
   rw[Bp zq0,Ao])
 rw[show s=s+((0:Nat):Int) by simp]at hl
 simpa [Nl] using hl
theorem Bmo {l:List YI} (h:Ix l) (n s t:Int) (l0:List YI) (t':Int) (m:Nat) (h0:0<=s) (hm:(s+m=n+1/\m<=1024)\/(m=1024/\s+1024<=n+1)\/(m=0/\n<s)) (hn:n<=281474976710656) (hs:s<=281474976710656):
  Ay Ns (n,(0:Int),s,t,l0,(0:Int),([]:List YI),t',l,())=some (n,t,l0,(0:Int),([]:List YI),t',Nl l s m,()):=by
 have hl:=Ct (B:=Ns) m (fun i=>(n,(i:Int),s+(i:Int),t,l0,(0:Int),([]:List YI),t',Nl l s i,())) (n,t,l0,(0:Int),([]:List YI),t',Nl l s m,())
  (fun i hi=>by
   have hw:=(We h h0 i).1
   have hx:=Aqv hw (n:=s+(i:Int)) zq0
   unfold Ns
   simp only[Af,Ag,Aa,Aj]
   rw[Al (p:=s+(i:Int)<=n) zq0,A9,Al (p:=(i:Int)<1024) zq0,A9,Al (p:=(0:Int)<=s+(i:Int)) zq0,Al (p:=(0:Int)<=(s+(i:Int))%1024) zq0,show(s+(i:Int))%1024%32=(s+(i:Int))%32 by omega,Al (p:=(0:Int)<=(s+(i:Int))%32) zq0,hx,w64 (n:=s+(i:Int)+1) zq0,w64 (n:=(i:Int)+1) zq0]
   simp only[Ae,Ba]
   rw[show s+((i+1:Nat):Int)=s+(i:Int)+1 by push_cast;omega]
   rfl)
  (by
   unfold Ns
   simp only[Af,Ag,Aa,Aj]
   by_cases hle:s+(m:Int)<=n
   .rw[Al hle,A9,Bp (p:=(m:Int)<1024) zq0,Ao]
   .rw[Bp hle,Ao])
 rw[show s=s+((0:Nat):Int) by simp]at hl
 simpa [Nl] using hl
def Bc4 (t n:Int):Nat:=if n<=t then 0 else if n<=t+1024 then(n-t-1).toNat else 1023
def Akz (t n:Int):Int:=if t+1<n-1023 then n-1023 else t+1
def Ak0 (t n:Int):Nat:=if n<=t then 0 else if n<=t+1024 then(n-t).toNat else 1024
def J7 (w:Dk) (n:Int):Dk:=(if w.1<n then n else w.1,Pe Ag4 (Nl w.2.1 (w.1+1) (Ak0 w.1 n)) n,())
theorem Bos {l:List YI} (h:Ix l) {t n:Int} (ht: -1<=t) (hn:0<=n):Pe Ag4 (Nl l (Akz t n) (Bc4 t n)) n=Pe Ag4 (Nl l (t+1) (Ak0 t n)) n:=by
 refine Br2 h (by unfold Akz;split<;>omega) zq0 hn fun r hr hne=>?_
 unfold Bc4 Ak0 Akz
 by_cases h1:n<=t
 .rw[if_pos h1,if_pos h1]
  exact⟨fun _ k hk=>by omega,fun _ k hk=>by omega⟩
 .rw[if_neg h1,if_neg h1]
  by_cases h2:n<=t+1024
  .rw[if_pos h2,if_pos h2,if_neg zq0]
   constructor
   .intro hk k hk2
    rcases Nat.lt_or_ge k (n-t-1).toNat with hh|hh
    .exact hk k hh
    .have:t+1+(k:Int)=n:=by omega
     rw[this];exact hne
   .intro hk k hk2
    exact hk k zq0
  .rw[if_neg h2,if_neg h2,if_pos zq0]
   constructor
   .intro hk
    exact(hk (((r:Int)-(n-1023))%1024).toNat zq0 zq0).elim
   .intro hk
    exact(hk (((r:Int)-(t+1))%1024).toNat zq0 zq0).elim
theorem Bc5 {f:Int->Int->Int} {l:List YI} {n:Int}:(Pe f l n).length=l.length:=by unfold Pe;simp
theorem Bc6 {l:List YI} {s:Int}: ∀m,(Nl l s m).length=l.length
 |0=>rfl
 |m+1=>by show(Pe A59 (Nl l s m) (s+m)).length=_;rw[Bc5,Bc6 m]
theorem Ak1 (w:Dk) (n:Int):Hr (J7 w n)=Hr w:=by
 simp only[Hr,J7,Bc5,Bc6]
theorem Bou (w:Dk) (n:YI) (hl:w.2.1.length<=4294967296):Ap8 w n=some (bif Jg w n.1 then(J7 w n.1,(true,()))else(w,(false,()))):=by
 unfold Ap8 Apg
 simp only[Af,Ag,Aa,Aj]
 rw[Avd w (by simp only[Hr];omega),Bor w n hl]
 simp only[Ae]
 cases hm:Jg w n.1 with
 |false=>rfl
 |true=>
  have hm':=hm
  unfold Jg at hm'
  simp only[Bool.and_eq_true]at hm'
  obtain⟨h1,h2,h3⟩:=Acf hm'.1
  have hn:=Bj.1 hm'.2.1
  simp only[Bool.not_true,Ao,cond_true]
  rw[w64 (n:=w.1+1) zq0,w64 (n:=n.1-1024) zq0,w64 (n:=n.1-1024+1) zq0,show n.1-1024+1=n.1-1023 by omega]
  rw[show(if w.1+1<n.1-1023 then n.1-1023 else w.1+1)=Akz w.1 n.1 from rfl]
  rw[Bmn h1 n.1 (Akz w.1 n.1) w.1 w.2.1 w.1 (Bc4 w.1 n.1) (by unfold Akz;split<;>omega) (by unfold Akz Bc4;split<;>(try split)<;>(try split)<;>omega) zq0 (by unfold Akz;split<;>omega)]
  have hw:=(We h1 (s:=Akz w.1 n.1) (by unfold Akz;split<;>omega) (Bc4 w.1 n.1)).1
  simp only[Ae]
  rw[Al (p:=(0:Int)<=n.1) zq0,Al (p:=(0:Int)<=n.1%1024) zq0,Al (p:=(0:Int)<=n.1%32) zq0,Aqv hw hn.1]
  simp only[Ae,Ba]
  unfold J7
  rw[<-Bos h1 h2 hn.1]
  rfl
theorem A01 (w:Dk) (n:YI) (hl:w.2.1.length<=4294967296):Xi w n=some (bif Jg w n.1 then(J7 w n.1,(true,()))else(w,(false,()))):=by
 unfold Xi Any
 simp only[Af,Ag,Aa,Aj]
 rw[Bcr w (by simp only[Hr];omega),Bc3 w n hl]
 simp only[Ae]
 cases hm:Jg w n.1 with
 |false=>rfl
 |true=>
  have hm':=hm
  unfold Jg at hm'
  simp only[Bool.and_eq_true]at hm'
  obtain⟨h1,h2,h3⟩:=Acf hm'.1
  have hn:=Bj.1 hm'.2.1
  simp only[Bool.not_true,Ao,cond_true]
  rw[w64 (n:=w.1+1) zq0]
  rw[Bmo h1 n.1 (w.1+1) w.1 w.2.1 w.1 (Ak0 w.1 n.1) zq0 (by unfold Ak0;split<;>(try split)<;>omega) zq0 zq0]
  have hw:=(We h1 (s:=w.1+1) zq0 (Ak0 w.1 n.1)).1
  simp only[Ae]
  rw[Al (p:=(0:Int)<=n.1) zq0,Al (p:=(0:Int)<=n.1%1024) zq0,show n.1%1024%32=n.1%32 by omega,Al (p:=(0:Int)<=n.1%32) zq0,Aqv hw hn.1]
  simp only[Ae,Ba]
  unfold J7
  by_cases hg:n.1>w.1
  .rw[Al hg,A9,if_pos hg];rfl
  .rw[Bp hg,Ao,if_neg hg];rfl
def orx (d x y:Int):Int:=IntKind.i64.wrap ((BitVec.ofInt (IntKind.i64.bits) d ||| BitVec.ofInt (IntKind.i64.bits) ((IntKind.i64.wrap ((IntKind.u8.wrap ((BitVec.ofInt (IntKind.u8.bits) x ^^^ BitVec.ofInt (IntKind.u8.bits) y).toNat:Nat)))))).toNat:Nat)
theorem Br3 {x y:Nat} (hx:x<=255) (hy:y<=255): ∃u:Nat,IntKind.i64.wrap ((IntKind.u8.wrap ((BitVec.ofInt (IntKind.u8.bits) (x:Int) ^^^ BitVec.ofInt (IntKind.u8.bits) (y:Int)).toNat:Nat)))=(u:Int)/\u<=255/\(u=0↔x=y):=by
 have e1:BitVec.ofInt (IntKind.u8.bits) (x:Int)=BitVec.ofNat 8 x:=by show BitVec.ofInt 8 (x:Int)=_;simp
 have e2:BitVec.ofInt (IntKind.u8.bits) (y:Int)=BitVec.ofNat 8 y:=by show BitVec.ofInt 8 (y:Int)=_;simp
 rw[e1,e2]
 have hlt:(BitVec.ofNat 8 x ^^^ BitVec.ofNat 8 y).toNat<256:=(BitVec.ofNat 8 x ^^^ BitVec.ofNat 8 y).isLt
 refine⟨(BitVec.ofNat 8 x ^^^ BitVec.ofNat 8 y).toNat,?_,by omega,?_⟩
 .show IntKind.i64.wrap (IntKind.u8.wrap (((BitVec.ofNat 8 x ^^^ BitVec.ofNat 8 y).toNat:Nat):Int))=_
  rw[w8 zq0,w64 zq0]
 .constructor
  .intro h
   have h1:BitVec.ofNat 8 x ^^^ BitVec.ofNat 8 y=0#8:=by apply BitVec.eq_of_toNat_eq;simpa using h
   have h2:BitVec.ofNat 8 x=BitVec.ofNat 8 y:=by
    have:=congrArg (· ^^^ BitVec.ofNat 8 y) h1
    simpa [BitVec.xor_assoc] using this
   have h3:=congrArg BitVec.toNat h2
   simp only[BitVec.toNat_ofNat]at h3
   omega
  .intro h;subst h;simp
theorem Br4 {d x y:Int} (hd:0<=d/\d<=255) (hx:0<=x/\x<=255) (hy:0<=y/\y<=255):(0<=orx d x y/\orx d x y<=255)/\(orx d x y=0↔d=0/\x=y):=by
 obtain⟨d',rfl⟩:=Int.eq_ofNat_of_zero_le hd.1
 obtain⟨x',rfl⟩:=Int.eq_ofNat_of_zero_le hx.1
 obtain⟨y',rfl⟩:=Int.eq_ofNat_of_zero_le hy.1
 obtain⟨u,u1,u2,u3⟩:=Br3 (x:=x') (y:=y') zq0 zq0
 have e1:BitVec.ofInt (IntKind.i64.bits) (d':Int)=BitVec.ofNat 64 d':=Ou d'
 have e2:BitVec.ofInt (IntKind.i64.bits) (u:Int)=BitVec.ofNat 64 u:=Ou u
 have hv:(BitVec.ofNat 64 d' ||| BitVec.ofNat 64 u).toNat=d' ||| u:=by
  rw[BitVec.toNat_or,BitVec.toNat_ofNat,BitVec.toNat_ofNat,Nat.mod_eq_of_lt zq0,Nat.mod_eq_of_lt zq0]
 have hlt:d' ||| u<2^8:=Nat.or_lt_two_pow zq0 zq0
 have hw:IntKind.i64.wrap (((BitVec.ofNat 64 d' ||| BitVec.ofNat 64 u).toNat:Nat):Int)=((d' ||| u:Nat):Int):=by
  rw[hv];exact w64 zq0
 have hz:(d' ||| u)=0↔d'=0/\u=0:=by
  constructor
  .intro h
   have h1:d'<=d' ||| u:=Nat.left_le_or
   have h2:u<=d' ||| u:=Nat.right_le_or
   omega
  .rintro⟨rfl,rfl⟩;rfl
 have key:orx (d':Int) (x':Int) (y':Int)=((d' ||| u:Nat):Int):=by
  unfold orx
  rw[u1,e1,e2]
  exact hw
 rw[key]
 refine⟨by omega,?_⟩
 rw[show(((d' ||| u:Nat):Int)=0)↔(d' ||| u)=0 by omega,hz,u3]
 omega
theorem Bc7 {a b:List YB} {i:Nat} {x y:YB} (hx:a[i]? =some x) (hy:b[i]? =some y):(a.take (i+1)=b.take (i+1))↔(a.take i=b.take i/\x.1=y.1):=by
 have ha:i<a.length:=(List.getElem?_eq_some_iff.1 hx).1
 have hb:i<b.length:=(List.getElem?_eq_some_iff.1 hy).1
 rw[<-E9 hx,<-E9 hy]
 constructor
 .intro h
  have:=List.append_inj h zq1
  refine⟨this.1,?_⟩
  have h2:=this.2
  simp only[List.cons.injEq,and_true]at h2
  rw[h2]
 .rintro⟨h1,h2⟩
  have:x=y:=Prod.ext h2 rfl
  rw[h1,this]
theorem Bhi (a b:List YB) (h:a.length<=4294967296): ∃r,Vt (a,()) (b,())=some (r,())/\A0r (a,()) (b,())=some (r,())/\(wfB a->wfB b->(r=0↔a=b)):=by
 unfold Vt A0g A0r Bb9
 simp only[Af,Ag,Aa]
 by_cases hl:a.length=b.length
 .have e:(((a.length:Int) != (b.length:Int)))=false:=by simp[hl]
  simp only[e,Ao]
  obtain⟨o1,o2,h1,h2,hq⟩:=Vu (B1:=Xa) (B2:=Ad7)
   (fun i d1 d2=>∃d:Int,(wfB a->wfB b->(0<=d/\d<=255)/\(d=0↔a.take i=b.take i))/\d1=(a,b,d,(a.length:Int),(i:Int),())/\d2=(a,b,d,(i:Int),()))
   (fun o1 o2=>o1=o2/\(wfB a->wfB b->(o1.1=0↔a=b))) a.length
   (by
    rintro i d1 d2 hi ⟨d,hd,rfl,rfl⟩
    have hib:i<b.length:=by omega
    have hx:=List.getElem?_eq_getElem hi
    have hy:=List.getElem?_eq_getElem hib
    left
    unfold Xa Ad7
    simp only[Af,Ag,Aa,Dm hi,A9,B9 hx,B9 hy,Ae]
    rw[w64 (n:=(i:Int)+1) zq0]
    refine⟨_,_,rfl,rfl,orx d a[i].1 b[i].1,fun wa wb=>?_,rfl,rfl⟩
    obtain⟨hr,hz⟩:=hd wa wb
    obtain⟨k1,k2⟩:=Br4 hr (wa i _ hx) (wb i _ hy)
    exact⟨k1,by rw[k2,hz,Bc7 hx hy]⟩)
   (by
    rintro d1 d2 ⟨d,hd,rfl,rfl⟩
    unfold Xa Ad7
    simp only[Af,Ag,Aa,Dn,Ao]
    refine⟨_,_,rfl,rfl,rfl,fun wa wb=>?_⟩
    rw[(hd wa wb).2,List.take_length,hl,List.take_length])
   (d1:=(a,b,(0:Int),(a.length:Int),(0:Int),())) (d2:=(a,b,(0:Int),(0:Int),())) ⟨0,fun _ _=>⟨by omega,by simp⟩,rfl,rfl⟩
  obtain⟨hq1,hq2⟩:=hq
  subst hq1
  rw[h1,h2]
  exact⟨o1.1,rfl,rfl,hq2⟩
 .have e:(((a.length:Int) != (b.length:Int)))=true:=by simp;omega
  simp only[e,A9]
  exact⟨-1,rfl,rfl,fun _ _=>⟨fun h=>by omega,fun h=>(hl (by rw[h])).elim⟩⟩
theorem A32 (a b:List YB) (h:a.length<=4294967296): ∃r,Qq (a,()) (b,())=some (r,())/\Akr (a,()) (b,())=some (r,()):=by
 unfold Qq Aj4 Akr Ayx
 simp only[Af,Ag,Aa]
 obtain⟨r,r1,r2,_⟩:=Bhi a b h
 rw[r1,r2]
 simp only[Ae]
 cases ((a.length:Int)==(16:Int))<;>exact⟨_,rfl,rfl⟩
theorem Bmp (k:List YB) (r:Int) (f:Ar) (h:Aq f<=536870912): ∃p b,Ap9 (k,()) (r,()) f=some ((p,()),(b,()))/\Aqd (k,()) (r,()) f=some ((p,()),(b,()))/\p.length<=Aq f/\
  (b=true->k.length=32/\p=mix k (Ei r f.2.2.2.1 f.2.2.2.2.2.2.2.1 f.2.2.2.2.2.2.2.2.1) f.2.2.2.2.2.2.2.2.2.1):=by
 have hm:=Avc k (Ei r f.2.2.2.1 f.2.2.2.2.2.2.2.1 f.2.2.2.2.2.2.2.2.1) f.2.2.2.2.2.2.2.2.2.1
 have hn:f.2.2.2.2.2.2.2.2.2.1.length<=Aq f:=by simp only[Aq];omega
 have hn2:f.2.2.2.2.2.2.2.2.2.2.1.length<=Aq f:=by simp only[Aq];omega
 obtain⟨t,t1,t2⟩:=A32 f.2.2.2.2.2.2.2.2.2.2.1 (T5 k (D3 r f)) zq0
 unfold Ap9 Aph Aqd A3j
 simp only[Af,Ag,Aa]
 rw[Tl _ _ h,Xx _ _ h]
 simp only[Ae]
 rw[Baj,Bak]
 simp only[Ae]
 rw[t1,t2]
 simp only[Ae]
 rw[A0y,Aqo]
 simp only[Ae]
 rw[Bqc,Bqd]
 simp only[Ae]
 cases hk:((k.length:Int) != (32:Int))with
 |true=>exact⟨[],false,rfl,rfl,by simp,fun h=>by cases h⟩
 |false=>
  cases (((D3 r f).length:Int)==(0:Int))with
  |true=>exact⟨[],false,rfl,rfl,by simp,fun h=>by cases h⟩
  |false=>
   cases t with
   |false=>exact⟨[],false,rfl,rfl,by simp,fun h=>by cases h⟩
   |true=>exact⟨_,true,rfl,rfl,by omega,fun _=>⟨by simp at hk;omega,rfl⟩⟩
def EpO (e:YEp) (r:Int) (f:Ar) (e':YEp) (p:List YB) (z:Int):Prop:=
 C7 e'=C7 e/\p.length<=Aq f/\(z≠0->e'=e/\p=[])/\(z=0->Fv e=true/\e'=(e.1,e.2.1,e.2.2.1,(J7 (e.2.2.2.1,e.2.2.2.2.1,()) f.2.2.2.2.2.2.2.2.1).1,(J7 (e.2.2.2.1,e.2.2.2.2.1,()) f.2.2.2.2.2.2.2.2.1).2.1,())/\Jg (e.2.2.2.1,e.2.2.2.2.1,()) f.2.2.2.2.2.2.2.2.1=true/\
  f.2.2.2.2.2.2.2.1=e.1/\p=mix e.2.1 (Ei r f.2.2.2.1 f.2.2.2.2.2.2.2.1 f.2.2.2.2.2.2.2.2.1) f.2.2.2.2.2.2.2.2.2.1)
theorem Air (e:YEp) (r:Int) (f:Ar) (h:C7 e<=4294967296) (h2:Aq f<=536870912):
  ∃e' p z,I4 e (r,()) f=some (e',(p,()),(z,()))/\Mv e (r,()) f=some (e',(p,()),(z,()))/\EpO e r f e' p z:=by
 have hw:=Ak1 (e.2.2.2.1,e.2.2.2.2.1,()) f.2.2.2.2.2.2.2.2.1
 have hn:C7 e=e.2.1.length+e.2.2.2.2.1.length:=rfl
 have nope: ∀z:Int,z≠0-> ∃e' p z',some (e,(([]:List YB),()),(z,()))=some (e',(p,()),(z',()))/\some (e,(([]:List YB),()),(z,()))=some (e',(p,()),(z',()))/\EpO e r f e' p z':=fun z hz=>
  ⟨e,[],z,rfl,rfl,rfl,by simp,fun _=>⟨rfl,rfl⟩,fun h=>(hz h).elim⟩
 obtain⟨p,b,u1,u2,u3,u4⟩:=Bmp e.2.1 r f h2
 unfold I4 Api Mv A3k
 simp only[Af,Ag,Aa]
 rw[A0z e h,Aqp e h,A3q e zq0,Bcd e,Tl _ _ h2,Xx _ _ h2,Bou _ _ zq2,A01 _ _ zq2,Bc3 _ _ zq2,u1,u2]
 simp only[Ae]
 cases ho:Fv e with
 |false=>exact nope 1 zq7
 |true=>
  simp only[Bool.not_true,Ao]
  cases (((D3 r f).length:Int)==(0:Int))with
  |true=>exact nope 1 zq7
  |false=>
   simp only[Ao]
   cases hne:(f.2.2.2.2.2.2.2.1 != e.1)with
   |true=>exact nope 1 zq7
   |false=>
    simp only[Ao]
    cases hm:Jg (e.2.2.2.1,e.2.2.2.2.1,()) f.2.2.2.2.2.2.2.2.1 with
    |false=>exact nope 3 zq7
    |true=>
     simp only[cond_true,Bool.not_true,Ao,Ae]
     cases b with
     |false=>exact nope 2 zq7
     |true=>
      simp only[Bool.not_true,Ao]
      refine⟨_,p,0,rfl,rfl,?_,u3,fun h=>(h rfl).elim,fun _=>⟨ho,rfl,hm,by simpa using hne,(u4 rfl).2⟩⟩
      simp only[Hr]at hw
      simp only[C7];omega
theorem Aep {l:List YB}:wfB l↔ ∀x∈l,0<=x.1/\x.1<=255:=by
 constructor
 .intro h x hx
  obtain⟨i,hi⟩:=List.getElem?_of_mem hx
  exact h i x hi
 .intro h i x hx
  exact h x (List.mem_of_getElem? hx)
theorem Gw:wfB []:=Aep.2 zq3
theorem Bov {a:List YB} {n:Nat} (ha:wfB a):wfB (a.take n):=Aep.2 fun x hx=>Aep.1 ha x (List.mem_of_mem_take hx)
theorem Bc8 {a:List YB} {n:Nat} (ha:wfB a):wfB (a.drop n):=Aep.2 fun x hx=>Aep.1 ha x (List.mem_of_mem_drop hx)
theorem u8_in (n:Int):0<=IntKind.u8.wrap n/\IntKind.u8.wrap n<=255:=by rw[IntKind.wrap_u8];omega
theorem Bqu (k n p:List YB):wfB (mix k n p):=by
 unfold mix
 split
 .refine Aep.2 fun x hx=>?_
  unfold Ag1 at hx
  obtain⟨j,_,rfl⟩:=List.mem_map.1 hx
  exact u8_in _
 .exact Gw
theorem Br5 (sn:List YB) (ep seq kind:Int) (p t:List YB) (hk:inR kind 4 8=true) (ht:t.length=16):B7 (kind,0,[],sn,0,[],[],ep,seq,p,t,())=(((sn.length:Int)==12) && (inR ep 0 4294967295 && (inR seq 0 281474976710655 && Jc kind (p.length:Int)))):=by
 unfold B7
 simp only[hk,cond_true]
 simp[ht]
theorem Bhj {k n:Int} (h:Jc k n=true):n<=40:=by
 unfold Jc at h
 cases h4:(k==4)<;>cases h5:(k==5)<;>cases h6:(k==6)<;>simp[h4,h5,h6]at h<;>omega
theorem Bhk {k n p:List YB} (h1:p.length<=200) (h2:n.length<=100) (h3:k.length<=1048576):(mix k n p).length=p.length:=by
 unfold mix
 rw[if_pos ⟨h1,h2,h3⟩,Aqn]
theorem Bhl {k m:List YB} (h1:k.length<=1048576) (h2:m.length<=1048512):(T5 k m).length=16:=by
 unfold T5
 rw[List.length_take,Od k m h1 h2];rfl
theorem Aak {k:List YB} {r:Int} {sn:List YB} {ep seq kind:Int} {p:List YB} (h:Mw k r sn ep seq kind p=true):B7 (Gq k r sn ep seq kind p).1=true:=by
 have h':=h
 unfold Mw Hy at h'
 simp only[Bool.and_eq_true]at h'
 obtain⟨a1,⟨a2,a3,a4,a5⟩,a6,a7⟩:=h'
 have hk:k.length=32:=by simp at a1;omega
 have hsn:sn.length=12:=by simp at a3;omega
 have hp:=Bhj a7
 have hl:(Ei r sn ep seq).length<=23:=by rw[Ot];cases Hy r sn ep seq<;>simp
 have hm:(mix k (Ei r sn ep seq) p).length=p.length:=Bhk zq0 zq0 zq0
 have hti:=Abq r (kind,0,[],sn,0,[],[],ep,seq,mix k (Ei r sn ep seq) p,Qa,())
 have ht:(T5 k (D3 r (kind,0,[],sn,0,[],[],ep,seq,mix k (Ei r sn ep seq) p,Qa,()))).length=16:=by
  refine Bhl zq0 ?_
  refine Nat.le_trans hti ?_
  simp only[Aq,List.length_nil,hsn,hm,Qa,List.length_replicate];omega
 unfold Gq
 rw[h]
 simp only[cond_true]
 rw[Br5 _ _ _ _ _ _ a6 ht,hm,a3,a4,a5,a7];rfl
theorem Aeq {w:Dk} (h:Ix w.2.1) {n:Int} (h0:0<=n):Adb w n=Aaj w.2.1 (n%1024).toNat:=by
 obtain⟨m,rfl⟩:=Int.eq_ofNat_of_zero_le h0
 have hlt:m%1024/32<w.2.1.length:=by rw[h.1];omega
 have hx:=List.getElem?_eq_getElem hlt
 have hw:=h.2 _ _ hx
 obtain⟨k,hk⟩:=Int.eq_ofNat_of_zero_le hw.1
 have hid:idx w.2.1 ((m:Int)%1024/32)=some w.2.1[m%1024/32]:=by
  rw[show(m:Int)%1024/32=((m%1024/32:Nat):Int) by omega];exact B9 hx
 unfold Adb Aaj
 rw[hid,show((m:Int)%1024).toNat=m%1024 by omega,hx]
 show(IntKind.i64.wrap _==1)=Nat.testBit (Int.toNat (w.2.1[m%1024/32]).1) _
 rw[hk,show((k:Int)).toNat=k by omega,show((m:Int)%32).toNat=m%32 by omega,show min (m%32) IntKind.i64.bits=m%32 from Nat.min_eq_left (by show m%32<=64;omega),show m%1024%32=m%32 by omega]
 have e1:Int.fdiv (k:Int) ((2:Int)^(m%32))=((k/2^(m%32):Nat):Int):=by
  rw[show((2:Int)^(m%32))=((2^(m%32):Nat):Int) by push_cast;rfl,Int.fdiv_eq_ediv_of_nonneg _ (Int.natCast_nonneg _)];rfl
 have hk32:k<4294967296:=by omega
 have hd:k/2^(m%32)<=k:=Nat.div_le_self _ _
 rw[e1,Ou]
 have e2:BitVec.ofInt IntKind.i64.bits (1:Int)=BitVec.ofNat 64 1:=Ou 1
 rw[e2]
 have e3:(BitVec.ofNat 64 (k/2^(m%32)) &&& BitVec.ofNat 64 1).toNat=k/2^(m%32)%2:=by
  rw[BitVec.toNat_and,BitVec.toNat_ofNat,BitVec.toNat_ofNat,Nat.mod_eq_of_lt (a:=k/2^(m%32)) (b:=2^64) (Nat.lt_of_le_of_lt hd zq0),show(1:Nat)%2^64=1 from rfl,Nat.and_one_is_mod]
 have e4:IntKind.i64.wrap (((BitVec.ofNat 64 (k/2^(m%32)) &&& BitVec.ofNat 64 1).toNat:Nat):Int)=((k/2^(m%32)%2:Nat):Int):=by
  rw[e3];exact w64 zq0
 show(IntKind.i64.wrap (((BitVec.ofNat 64 (k/2^(m%32)) &&& BitVec.ofNat 64 1).toNat:Nat):Int)==1)=_
 rw[e4,Nat.testBit_eq_decide_div_mod_eq]
 by_cases hb:k/2^(m%32)%2=1
 .simp[hb]
 .have:k/2^(m%32)%2=0:=by omega
  simp[this]
theorem A8i {w:Dk} {n:Int} (h:Jg w n=true):Ip (J7 w n)=true:=by
 unfold Jg at h
 simp only[Bool.and_eq_true]at h
 obtain⟨h1,h2,h3⟩:=Acf h.1
 have hn:=Bj.1 h.2.1
 obtain⟨c1,c2⟩:=We h1 (s:=w.1+1) zq0 (Ak0 w.1 n)
 obtain⟨t1,t2⟩:=Aws (f:=Ag4) (g:=fun x y=>x || y) (fun hw hb=>A6a hw hb) (fun x=>by simp) c1 hn.1
 have ho:=h.1
 unfold Ip at ho
 simp only[Bool.and_eq_true]at ho
 have htop:(J7 w n).1=if w.1<n then n else w.1:=rfl
 have hbits:(J7 w n).2.1=Pe Ag4 (Nl w.2.1 (w.1+1) (Ak0 w.1 n)) n:=rfl
 have hwin:Ix (J7 w n).2.1:=t1
 have htail:=Ak2.1 ho.2.2.1
 unfold Ip
 simp only[Bool.and_eq_true]
 refine⟨Bj.2 (by rw[htop];split<;>omega),⟨Aeb.2 fun q x hx=>by have:=hwin.2 q x hx;omega,by rw[hwin.1];rfl⟩,?_,?_⟩
 .refine Ak2.2 fun i hi=>?_
  rw[htop]at hi ⊢
  have hp:(0:Int)<=(if w.1<n then n else w.1)+1+(i:Nat):=by split<;>omega
  rw[Aeq hwin hp,hbits]
  generalize hq:((if w.1<n then n else w.1)+1+(i:Nat))=p at hp
  have hp2:p<=1023:=by rw[<-hq];split at hi<;>(split<;>omega)
  have hp3:w.1<p/\n<p:=by rw[<-hq];split<;>omega
  rw[t2 _ zq0,c2 _ zq0]
  have hne:decide ((((p%1024).toNat:Nat):Int)=n%1024)=false:=decide_eq_false zq0
  have hold:=htail (p-w.1-1).toNat zq0
  rw[show w.1+1+(((p-w.1-1).toNat:Nat):Int)=p by omega,Aeq h1 hp]at hold
  rw[hne,hold];rfl
 .rw[htop]
  by_cases hlt:w.1<n
  .rw[if_pos hlt,Aeq hwin hn.1,hbits,t2 _ zq0]
   rw[show decide ((((n%1024).toNat:Nat):Int)=n%1024)=true from decide_eq_true zq0]
   simp
  .rw[if_neg hlt,Aeq hwin zq0,hbits,t2 _ zq0,c2 _ zq0]
   have hm:Ak0 w.1 n=0:=by unfold Ak0;rw[if_pos zq0]
   have hold:=ho.2.2.2
   rw[show(w.1== -1)=false by simp;omega,Bool.false_or,Aeq h1 zq0]at hold
   rw[hold,hm]
   simp
theorem Avi (e:YEp) (r:YI) (f:Ar) (h:C7 e<=4294967296) (h2:Aq f<=536870912):I4 e r f=Mv e r f:=by
 obtain⟨r,⟨⟩⟩:=r
 obtain⟨e',p,z,k1,k2,_⟩:=Air e r f h h2
 rw[k1,k2]
theorem Fb {e:YEp} (h:Fv e=true):(0<=e.1/\e.1<=4294967295)/\e.2.1.length=32/\e.2.2.2.2.1.length=32:=by
 unfold Fv Ip at h
 simp only[Bool.and_eq_true,Bj]at h
 refine⟨h.1,by have:=h.2.1;simp at this;omega,by have:=h.2.2.2.2.1.2;simp at this;omega⟩
theorem Hh {c:Ap} (h:Ci c=true):(c.1=0\/c.1=1)/\c.2.1.length=12/\Fv (Lq c)=true/\Lr c=true/\(c.2.2.2.2.2.2.2.2.2.2.2.2.2.2.1.length=0\/(c.1=0/\c.2.2.2.2.2.2.2.2.2.2.2.2.2.2.1.length=32/\c.2.2.1<4294967295)):=by
 unfold Ci at h
 simp only[Bool.not_not,Bool.and_eq_true,Bool.or_eq_true,beq_iff_eq,decide_eq_true_eq]at h
 refine⟨h.1,by omega,h.2.2.1,h.2.2.2.1,?_⟩
 rcases h.2.2.2.2 with q|q
 .left;have:=q;simp only[J6]at this;omega
 .right;have:=q;simp only[J6]at this;exact⟨this.1,by omega,this.2.2⟩
theorem Ak3 {c:Ap} (h:Lr c=true) (hh:Xt c=true) (hN:0<=c.2.2.1/\c.2.2.1<=4294967295):Fv (Vi c)=true/\c.2.2.2.2.2.2.2.1=c.2.2.1-1/\((0<=Aaa c/\Aaa c<=1000005)\/(Aaa c= -1/\c.1=1)):=by
 unfold Lr at h
 rw[hh]at h
 simp only[Bool.not_true,cond_false,Bool.not_not,Bool.and_eq_true,Bool.or_eq_true,Bool.not_eq_true',bne_eq_false_iff_eq,Bj,beq_iff_eq]at h
 refine⟨h.1,?_,h.2.2⟩
 have:=h.2.1
 have this:c.2.2.2.2.2.2.2.1=IntKind.i64.wrap (c.2.2.1-1):=this
 rw[w64 zq0]at this
 exact this
theorem Bf3 (c:Ap) (n:YI) (f:Ar) (h:A7 c<=67000000) (h2:Aq f<=67108864) (w1:wfB f.2.2.2.1) (w2:wfB c.2.1):Oa c n f=Ln c n f:=by
 have hc:=h
 simp only[A7]at hc
 have hsn:f.2.2.2.1.length<=Aq f:=by simp only[Aq];omega
 obtain⟨d,d1,d2,d3⟩:=Bhi f.2.2.2.1 c.2.1 zq0
 have d3:=d3 w1 w2
 unfold Oa Aga Ln Agy
 simp only[Af,Ag,Aa]
 rw[Tm c zq0,Sc c zq0,Vw c A51 A52,R9 c,Cd,Cq,Aae,Aaf,Kv,Jd,Z8,d1]
 simp only[Ae]
 cases ho:Ci c with
 |false=>rfl
 |true=>
 cases inR n.1 0 1000000 with
 |false=>rfl
 |true=>
 simp only[Bool.not_true,Ao]
 cases inR f.1 4 8 with
 |false=>cases B7 f<;>rfl
 |true=>
 cases B7 f with
 |false=>rfl
 |true=>
 simp only[Bool.not_true,Ao]
 obtain⟨f1,f2,f3,f4,f5⟩:=Hh ho
 obtain⟨f6,f7,f8⟩:=Fb f3
 have f6:0<=c.2.2.1/\c.2.2.1<=4294967295:=f6
 have hwN:IntKind.i64.wrap (c.2.2.1+(1:Int))=c.2.2.1+1:=w64 zq0
 have hE1:=Avi (c.2.2.1,c.2.2.2.1,c.2.2.2.2.1,c.2.2.2.2.2.1,c.2.2.2.2.2.2.1,()) (IntKind.i64.wrap ((1:Int)-c.1),()) f (by simp only[C7];omega) zq0
 have hE2:=Avi (c.2.2.2.2.2.2.2.1,c.2.2.2.2.2.2.2.2.1,c.2.2.2.2.2.2.2.2.2.1,c.2.2.2.2.2.2.2.2.2.2.1,c.2.2.2.2.2.2.2.2.2.2.2.1,()) (IntKind.i64.wrap ((1:Int)-c.1),()) f (by simp only[C7];omega) zq0
 obtain⟨en,n1,n2,n3⟩:=Aqt (IntKind.i64.wrap (c.2.2.1+(1:Int)),()) (c.2.2.2.2.2.2.2.2.2.2.2.2.2.2.1,())
 have hE3:=Avi en (IntKind.i64.wrap ((1:Int)-c.1),()) f zq0 zq0
 by_cases hs:f.2.2.2.1=c.2.1
 case neg=>
  have e1:(d != (0:Int))=true:=by simp;exact fun e=>hs (d3.1 e)
  have e2:Dz f.2.2.2.1 c.2.1=false:=by
   cases hh:Dz f.2.2.2.1 c.2.1 with
   |false=>rfl
   |true=>exact(hs (Bc1 w1 w2 hh)).elim
  rw[e1,e2]
  cases c.2.2.2.2.2.2.2.2.2.2.2.2.1<;>cases decide ((c.2.2.2.2.2.2.2.2.2.2.2.2.2.2.1.length:Int)>(0:Int))<;>rfl
 case pos=>
 have e1:(d != (0:Int))=false:=by simp;exact d3.2 hs
 have e2:Dz f.2.2.2.1 c.2.1=true:=by rw[hs];exact Kk _
 rw[e1,e2]
 simp only[Bool.not_true,Ao]
 have main (r:YEp×YBs×YI):(Tg r c f c n).val=br (r.2.2.1 != (0:Int)) (some (c,(([]:List YB),()),r.2.2)) ((K9 f c c r n).val):=rfl
 have main2 (r:YEp×YBs×YI):(Xq r c f c n).val=br (r.2.2.1 != (0:Int)) (some (c,(([]:List YB),()),r.2.2)) ((Qz f c c r n).val):=rfl
 have hA:c.2.2.2.2.2.2.2.2.2.2.2.2.1=true->c.2.2.2.2.2.2.2.1=c.2.2.1-1:=fun hh=>(Ak3 f4 hh f6).2.1
 cases hold:c.2.2.2.2.2.2.2.2.2.2.2.2.1 with
 |true=>
  have hoN:=hA hold
  by_cases hb:f.2.2.2.2.2.2.2.1=c.2.2.1
  .have q1:(f.2.2.2.2.2.2.2.1==c.2.2.1)=true:=by simpa using hb
   have q2:(f.2.2.2.2.2.2.2.1==c.2.2.2.2.2.2.2.1)=false:=by simp;omega
   have q3:(f.2.2.2.2.2.2.2.1==IntKind.i64.wrap (c.2.2.1+(1:Int)))=false:=by rw[hwN];simp;omega
   simp only[q1,Bool.not_true,Ao,A9]
   rw[<-hE1]
   cases hnx:decide ((c.2.2.2.2.2.2.2.2.2.2.2.2.2.2.1.length:Int)>(0:Int))with
   |true=>
    simp only[A9]
    unfold Jx
    simp only[Af,q2,Ao]
    unfold Jw
    simp only[Af,q2,Ao]
    unfold Xp
    simp only[Af,q3,Ao]
    unfold Qx
    simp only[Ag,main]
    unfold K9
    simp only[Af,q1,A9]
    unfold N9
    simp only[Af,hold,A9]
    unfold Z3
    simp only[Af,Aa,hold]
   |false=>
    simp only[Ao]
    unfold Qy
    simp only[Af,q2,Ao]
    unfold Mu
    simp only[Af,q2,Ao]
    unfold Qx
    simp only[Ag,main]
    unfold K9
    simp only[Af,q1,A9]
    unfold N9
    simp only[Af,hold,A9]
    unfold Z3
    simp only[Af,Aa,hold]
  .have q1:(f.2.2.2.2.2.2.2.1==c.2.2.1)=false:=by simpa using hb
   simp only[q1,Bool.not_false,Ao,A9]
   by_cases ho2:f.2.2.2.2.2.2.2.1=c.2.2.2.2.2.2.2.1
   .have q2:(f.2.2.2.2.2.2.2.1==c.2.2.2.2.2.2.2.1)=true:=by simpa using ho2
    have q3:(f.2.2.2.2.2.2.2.1==IntKind.i64.wrap (c.2.2.1+(1:Int)))=false:=by rw[hwN];simp;omega
    simp only[q2,Bool.not_true,Ao,A9]
    rw[<-hE2]
    have fin:(Th c f c n).val=ob (I4 (c.2.2.2.2.2.2.2.1,c.2.2.2.2.2.2.2.2.1,c.2.2.2.2.2.2.2.2.2.1,c.2.2.2.2.2.2.2.2.2.2.1,c.2.2.2.2.2.2.2.2.2.2.2.1,()) (IntKind.i64.wrap ((1:Int)-c.1),()) f) fun r=>br (r.2.2.1 != (0:Int)) (some (c,(([]:List YB),()),r.2.2)) (some ((c.1,c.2.1,c.2.2.1,c.2.2.2.1,c.2.2.2.2.1,c.2.2.2.2.2.1,c.2.2.2.2.2.2.1,r.1.1,r.1.2.1,r.1.2.2.1,r.1.2.2.2.1,r.1.2.2.2.2.1,true,c.2.2.2.2.2.2.2.2.2.2.2.2.2.1,c.2.2.2.2.2.2.2.2.2.2.2.2.2.2.1,()),r.2.1,((0:Int),()))):=by
     unfold Th
     simp only[Ag,main]
     unfold K9
     simp only[Af,q1,Ao]
     unfold Z4
     simp only[Af,q2,A9,Aa,hold]
    cases hnx:decide ((c.2.2.2.2.2.2.2.2.2.2.2.2.2.2.1.length:Int)>(0:Int))with
    |true=>
     simp only[A9]
     unfold Jx
     simp only[Af,q2,A9]
     unfold Aih
     simp only[Af]
     unfold Aig
     simp only[Af,Aa]
     unfold Jw
     simp only[Af,q2,A9]
     unfold Al9
     simp only[Af,q3,Ao,fin]
    |false=>
     simp only[Ao]
     unfold Qy
     simp only[Af,q2,A9]
     unfold Aij
     simp only[Af]
     unfold Aii
     simp only[Af,Aa]
     unfold Mu
     simp only[Af,q2,A9,fin]
   .have q2:(f.2.2.2.2.2.2.2.1==c.2.2.2.2.2.2.2.1)=false:=by simpa using ho2
    simp only[q2,Bool.not_false,Ao,A9]
    cases hnx:decide ((c.2.2.2.2.2.2.2.2.2.2.2.2.2.2.1.length:Int)>(0:Int))with
    |false=>rfl
    |true=>
     simp only[A9]
     cases q3:(f.2.2.2.2.2.2.2.1==IntKind.i64.wrap (c.2.2.1+(1:Int)))with
     |false=>rfl
     |true=>
      simp only[Bool.not_true,Ao,A9]
      rw[n2]
      simp only[Ae]
      rw[<-hE3]
      unfold Jx
      simp only[Af,q2,Ao]
      unfold Jw
      simp only[Af,q2,Ao]
      unfold Xp
      simp only[Af,q3,A9]
      unfold Z5
      simp only[Ag]
      rw[n1]
      simp only[Ae]
      unfold Al8
      simp only[Ag,main]
      unfold K9
      simp only[Af,q1,Ao]
      unfold Z4
      simp only[Af,q2,Ao,Aa]
 |false=>
  by_cases hb:f.2.2.2.2.2.2.2.1=c.2.2.1
  .have q1:(f.2.2.2.2.2.2.2.1==c.2.2.1)=true:=by simpa using hb
   have q3:(f.2.2.2.2.2.2.2.1==IntKind.i64.wrap (c.2.2.1+(1:Int)))=false:=by rw[hwN];simp;omega
   simp only[q1,Bool.not_true,Ao,A9]
   rw[<-hE1]
   have fin:(Q0 c f c n).val=ob (I4 (c.2.2.1,c.2.2.2.1,c.2.2.2.2.1,c.2.2.2.2.2.1,c.2.2.2.2.2.2.1,()) (IntKind.i64.wrap ((1:Int)-c.1),()) f) fun r=>br (r.2.2.1 != (0:Int)) (some (c,(([]:List YB),()),r.2.2)) (some ((c.1,c.2.1,r.1.1,r.1.2.1,r.1.2.2.1,r.1.2.2.2.1,r.1.2.2.2.2.1,c.2.2.2.2.2.2.2.1,c.2.2.2.2.2.2.2.2.1,c.2.2.2.2.2.2.2.2.2.1,c.2.2.2.2.2.2.2.2.2.2.1,c.2.2.2.2.2.2.2.2.2.2.2.1,false,c.2.2.2.2.2.2.2.2.2.2.2.2.2.1,c.2.2.2.2.2.2.2.2.2.2.2.2.2.2.1,()),r.2.1,((0:Int),()))):=by
    unfold Q0
    simp only[Ag,main2]
    unfold Qz
    simp only[Af,q1,A9]
    unfold N9
    simp only[Af,hold,Ao,Aa]
   cases hnx:decide ((c.2.2.2.2.2.2.2.2.2.2.2.2.2.2.1.length:Int)>(0:Int))with
   |true=>
    simp only[A9]
    unfold Q1
    simp only[Af,q3,Ao,fin]
   |false=>
    simp only[Ao,fin]
  .have q1:(f.2.2.2.2.2.2.2.1==c.2.2.1)=false:=by simpa using hb
   simp only[q1,Bool.not_false,Ao,A9]
   cases hnx:decide ((c.2.2.2.2.2.2.2.2.2.2.2.2.2.2.1.length:Int)>(0:Int))with
   |false=>rfl
   |true=>
    simp only[A9]
    cases q3:(f.2.2.2.2.2.2.2.1==IntKind.i64.wrap (c.2.2.1+(1:Int)))with
    |false=>rfl
    |true=>
     simp only[Bool.not_true,Ao,A9]
     rw[n2]
     simp only[Ae]
     rw[<-hE3]
     unfold Q1
     simp only[Af,q3,A9]
     unfold Ail
     simp only[Ag]
     rw[n1]
     simp only[Ae]
     unfold Aik
     simp only[Ag,main2]
     unfold Qz
     simp only[Af,q1,Ao,Aa]
def Amn (c:Ap) (e:YEp):Ap:=(c.1,c.2.1,c.2.2.1,c.2.2.2.1,c.2.2.2.2.1,c.2.2.2.2.2.1,c.2.2.2.2.2.2.1,e.1,e.2.1,e.2.2.1,e.2.2.2.1,e.2.2.2.2.1,c.2.2.2.2.2.2.2.2.2.2.2.2.1,c.2.2.2.2.2.2.2.2.2.2.2.2.2.1,c.2.2.2.2.2.2.2.2.2.2.2.2.2.2.1,())
def Acg (c:Ap) (u:Int):Ap:=(c.1,c.2.1,c.2.2.1,c.2.2.2.1,c.2.2.2.2.1,c.2.2.2.2.2.1,c.2.2.2.2.2.2.1,c.2.2.2.2.2.2.2.1,c.2.2.2.2.2.2.2.2.1,c.2.2.2.2.2.2.2.2.2.1,c.2.2.2.2.2.2.2.2.2.2.1,c.2.2.2.2.2.2.2.2.2.2.2.1,c.2.2.2.2.2.2.2.2.2.2.2.2.1,u,c.2.2.2.2.2.2.2.2.2.2.2.2.2.2.1,())
def moved (c:Ap) (e:YEp) (u:Int):Ap:=(c.1,c.2.1,e.1,e.2.1,e.2.2.1,e.2.2.2.1,e.2.2.2.2.1,c.2.2.1,c.2.2.2.1,c.2.2.2.2.1,c.2.2.2.2.2.1,c.2.2.2.2.2.2.1,true,u,([]:List YB),())
def Bow (e:YEp) (n:Int):YEp:=(e.1,e.2.1,e.2.2.1,(J7 (e.2.2.2.1,e.2.2.2.2.1,()) n).1,(J7 (e.2.2.2.1,e.2.2.2.2.1,()) n).2.1,())
theorem Bqv {e:YEp} {n:Int} (h:Fv e=true) (hm:Jg (e.2.2.2.1,e.2.2.2.2.1,()) n=true):Fv (Bow e n)=true:=by
 have hw:=A8i hm
 unfold Fv at h ⊢
 simp only[Bool.and_eq_true]at h ⊢
 exact⟨h.1,h.2.1,h.2.2.1,hw⟩
theorem EpO.ok {e:YEp} {r:Int} {f:Ar} {e':YEp} {p:List YB} {z:Int} (h:EpO e r f e' p z) (hz:z=0):Fv e=true/\e'=Bow e f.2.2.2.2.2.2.2.2.1/\Fv e'=true/\f.2.2.2.2.2.2.2.1=e.1/\p=mix e.2.1 (Ei r f.2.2.2.1 f.2.2.2.2.2.2.2.1 f.2.2.2.2.2.2.2.2.1) f.2.2.2.2.2.2.2.2.2.1:=by
 obtain⟨h1,h2,h3,h4⟩:=h
 obtain⟨k1,k2,k3,k4,k5⟩:=h4 hz
 have k2':e'=Bow e f.2.2.2.2.2.2.2.2.1:=k2
 exact⟨k1,k2',by rw[k2'];exact Bqv k1 k3,k4,k5⟩
theorem Aed {f:Ar} (h:B7 f=true) (hs:inR f.1 4 8=true):f.2.2.2.1.length=12/\(0<=f.2.2.2.2.2.2.2.1/\f.2.2.2.2.2.2.2.1<=4294967295)/\(0<=f.2.2.2.2.2.2.2.2.1/\f.2.2.2.2.2.2.2.2.1<=281474976710655)/\Jc f.1 (f.2.2.2.2.2.2.2.2.2.1.length:Int)=true/\f.2.2.2.2.2.2.2.2.2.1.length<=40:=by
 unfold B7 at h
 rw[hs]at h
 simp only[cond_true,Bool.and_eq_true,Bj,beq_iff_eq]at h
 have hb:=h.2.2.2.2.2.2.2.2.1
 have:=Bhj hb
 exact⟨by omega,h.2.2.2.2.2.2.1,h.2.2.2.2.2.2.2.1,hb,by omega⟩
def ChO (c:Ap) (n:Int) (f:Ar) (c':Ap) (p:List YB) (z:Int):Prop:=
 A7 c'<=A7 c+200/\p.length<=Aq f/\(z≠0->c'=c/\p=[])/\
 (z=0->Ci c=true/\Ci c'=true/\(0<=n/\n<=1000000)/\B7 f=true/\inR f.1 4 8=true/\f.2.2.2.1=c.2.1/\c'.1=c.1/\c'.2.1=c.2.1/\
  p.length=f.2.2.2.2.2.2.2.2.2.1.length/\wfB p/\
  ((c'.2.2.1=c.2.2.1/\J6 c'=J6 c/\c'.2.2.2.2.1=c.2.2.2.2.1/\c'.2.2.2.1=c.2.2.2.1)\/(c'.2.2.1=c.2.2.1+1/\J6 c'=[]/\c'.2.2.2.2.1=0/\f.2.2.2.2.2.2.2.1=c.2.2.1+1/\(J6 c).length=32)))
theorem Bc9 {c:Ap} {u:Int} (h:Ci c=true) (hh:Xt c=true) (hu:0<=u/\u<=1000005):Ci (Acg c u)=true:=by
 unfold Ci at h ⊢
 simp only[Bool.not_not,Bool.and_eq_true]at h ⊢
 refine⟨h.1,h.2.1,h.2.2.1,?_,h.2.2.2.2⟩
 have ho:=h.2.2.2.1
 unfold Lr at ho ⊢
 rw[hh]at ho
 have hh':Xt (Acg c u)=true:=hh
 rw[hh']
 simp only[Bool.not_true,cond_false,Bool.not_not,Bool.and_eq_true,Bool.or_eq_true]at ho ⊢
 exact⟨ho.1,ho.2.1,.inl (Bj.2 hu)⟩
theorem Bjv {c:Ap} {e:YEp} (h:Ci c=true) (hh:Xt c=true) (he:Fv e=true) (h1:e.1=(Vi c).1):Ci (Amn c e)=true:=by
 unfold Ci at h ⊢
 simp only[Bool.not_not,Bool.and_eq_true]at h ⊢
 refine⟨h.1,h.2.1,h.2.2.1,?_,h.2.2.2.2⟩
 have ho:=h.2.2.2.1
 unfold Lr at ho ⊢
 rw[hh]at ho
 have hh':Xt (Amn c e)=true:=hh
 rw[hh']
 simp only[Bool.not_true,cond_false,Bool.not_not,Bool.and_eq_true,Bool.or_eq_true]at ho ⊢
 refine⟨he,?_,ho.2.2⟩
 have:=ho.2.1
 rw[<-h1]at this
 exact this
theorem Box {c:Ap} {e:YEp} {u:Int} (h:Ci c=true) (he:Fv e=true) (h1:e.1=c.2.2.1+1) (hu:0<=u/\u<=1000005):Ci (moved c e u)=true:=by
 obtain⟨f1,f2,f3,f4,f5⟩:=Hh h
 have f6:=(Fb f3).1
 have f7:=(Fb he).1
 unfold Ci at h ⊢
 simp only[Bool.not_not,Bool.and_eq_true]at h ⊢
 refine⟨h.1,h.2.1,he,?_,?_⟩
 .unfold Lr
  have hh:Xt (moved c e u)=true:=rfl
  rw[hh]
  simp only[Bool.not_true,cond_false,Bool.not_not,Bool.and_eq_true,Bool.or_eq_true,Bool.not_eq_true',bne_eq_false_iff_eq]
  refine⟨f3,?_,.inl (Bj.2 hu)⟩
  show c.2.2.1=IntKind.i64.wrap (e.1-1)
  have f6':0<=c.2.2.1/\c.2.2.1<=4294967295:=f6
  rw[w64 zq0];omega
 .show(((([]:List YB).length:Int)==0) || _)=true
  rfl
theorem Bjw (c:Ap) (n:YI) (f:Ar) (h:A7 c<=67000000) (h2:Aq f<=67108864) (w1:wfB f.2.2.2.1) (w2:wfB c.2.1):
  ∃c' p z,Ln c n f=some (c',(p,()),(z,()))/\ChO c n.1 f c' p z:=by
 have hc:=h
 simp only[A7]at hc
 unfold Ln Agy
 simp only[Af,Ag,Aa]
 rw[Sc c zq0,R9 c,Cq,Aaf,Jd,Z8]
 simp only[Ae]
 have nope: ∀z:Int,z≠0-> ∃c' p z',some (c,(([]:List YB),()),(z,()))=some (c',(p,()),(z',()))/\ChO c n.1 f c' p z':=fun z hz=>
  ⟨c,[],z,rfl,by omega,by simp,fun _=>⟨rfl,rfl⟩,fun h=>(hz h).elim⟩
 cases ho:Ci c with
 |false=>exact nope 1 zq7
 |true=>
 cases hn:inR n.1 0 1000000 with
 |false=>exact nope 1 zq7
 |true=>
 simp only[Bool.not_true,Ao]
 cases hfo:B7 f with
 |false=>exact nope 1 zq7
 |true=>
 simp only[Bool.not_true,Ao]
 cases hse:inR f.1 4 8 with
 |false=>exact nope 1 zq7
 |true=>
 simp only[Bool.not_true,Ao]
 have hn':=Bj.1 hn
 obtain⟨b1,b2,b3,b4,b5⟩:=Aed hfo hse
 obtain⟨f1,f2,f3,f4,f5⟩:=Hh ho
 obtain⟨f6,f7,f8⟩:=Fb f3
 have f6:0<=c.2.2.1/\c.2.2.1<=4294967295:=f6
 have hwN:IntKind.i64.wrap (c.2.2.1+(1:Int))=c.2.2.1+1:=w64 zq0
 have hw5:IntKind.i64.wrap (n.1+(5:Int))=n.1+5:=w64 zq0
 have hr:IntKind.i64.wrap ((1:Int)-c.1)=1-c.1:=w64 zq0
 obtain⟨e1,p1,z1,_,s1,E1⟩:=Air (c.2.2.1,c.2.2.2.1,c.2.2.2.2.1,c.2.2.2.2.2.1,c.2.2.2.2.2.2.1,()) (1-c.1) f (by simp only[C7];omega) zq0
 obtain⟨e2,p2,z2,_,s2,E2⟩:=Air (c.2.2.2.2.2.2.2.1,c.2.2.2.2.2.2.2.2.1,c.2.2.2.2.2.2.2.2.2.1,c.2.2.2.2.2.2.2.2.2.2.1,c.2.2.2.2.2.2.2.2.2.2.2.1,()) (1-c.1) f (by simp only[C7];omega) zq0
 obtain⟨en,n1,n2,n3⟩:=Aqt (IntKind.i64.wrap (c.2.2.1+(1:Int)),()) (c.2.2.2.2.2.2.2.2.2.2.2.2.2.2.1,())
 obtain⟨e3,p3,z3,_,s3,E3⟩:=Air en (1-c.1) f zq0 zq0
 rw[hr,s1,s2,n2]
 simp only[Ae]
 rw[s3]
 simp only[Ae]
 cases hs:Dz f.2.2.2.1 c.2.1 with
 |false=>exact nope 8 zq7
 |true=>
 have hsn:=Bc1 w1 w2 hs
 simp only[Bool.not_true,Ao]
 have pl: ∀ {k:List YB} {p:List YB},k.length=32->p=mix k (Ei (1-c.1) f.2.2.2.1 f.2.2.2.2.2.2.2.1 f.2.2.2.2.2.2.2.2.1) f.2.2.2.2.2.2.2.2.2.1->p.length=f.2.2.2.2.2.2.2.2.2.1.length/\wfB p:=fun {k p} hk hp=>by
  have hl:(Ei (1-c.1) f.2.2.2.1 f.2.2.2.2.2.2.2.1 f.2.2.2.2.2.2.2.2.1).length<=23:=by
   rw[Ot];cases Hy (1-c.1) f.2.2.2.1 f.2.2.2.2.2.2.2.1 f.2.2.2.2.2.2.2.2.1<;>simp
  rw[hp]
  exact⟨Bhk zq0 zq0 zq0,Bqu _ _ _⟩
 have hnE1:C7 e1=C7 (Lq c):=E1.1
 have hnE2:C7 e2=C7 (Vi c):=E2.1
 simp only[C7,Lq]at hnE1
 simp only[C7,Vi]at hnE2
 have hpn: ∀p:List YB,p.length=f.2.2.2.2.2.2.2.2.2.1.length->p.length<=Aq f:=fun p h=>by simp only[Aq];omega
 cases q1:(f.2.2.2.2.2.2.2.1==c.2.2.1)with
 |true=>
  simp only[A9]
  by_cases hz:z1=0
  .subst hz
   simp only[show((0:Int) != (0:Int))=false from rfl,Ao]
   obtain⟨o1,o2,o3,o4,o5⟩:=E1.ok rfl
   obtain⟨g1,g2⟩:=pl f7 o5
   have hN:e1.1=c.2.2.1:=by rw[o2];rfl
   have hcur:=A3z ho o3 hN
   have hk:e1.2.1=c.2.2.2.1:=by rw[o2];rfl
   have hq:e1.2.2.1=c.2.2.2.2.1:=by rw[o2];rfl
   have plain:ChO c n.1 f (Gx c e1) p1 0:=⟨by simp only[A7,Gx];omega,hpn _ g1,fun h=>(h rfl).elim,fun _=>⟨ho,hcur,hn',hfo,hse,hsn,rfl,rfl,g1,g2,.inl ⟨hN,rfl,hq,hk⟩⟩⟩
   cases hold:c.2.2.2.2.2.2.2.2.2.2.2.2.1 with
   |true=>
    simp only[A9]
    cases hu:(c.2.2.2.2.2.2.2.2.2.2.2.2.2.1==(-1:Int))with
    |true=>
     rw[A9,hw5]
     have hw:=Bc9 (c:=Gx c e1) (u:=n.1+5) hcur hold zq0
     refine⟨_,p1,0,rfl,?_⟩
     rw[show((c.1,c.2.1,e1.1,e1.2.1,e1.2.2.1,e1.2.2.2.1,e1.2.2.2.2.1,c.2.2.2.2.2.2.2.1,c.2.2.2.2.2.2.2.2.1,c.2.2.2.2.2.2.2.2.2.1,c.2.2.2.2.2.2.2.2.2.2.1,c.2.2.2.2.2.2.2.2.2.2.2.1,true,n.1+5,c.2.2.2.2.2.2.2.2.2.2.2.2.2.2.1,()):Ap)=Acg (Gx c e1) (n.1+5) by simp only[Acg,Gx,hold]]
     exact⟨by simp only[A7,Gx,Acg];omega,hpn _ g1,fun h=>(h rfl).elim,fun _=>⟨ho,hw,hn',hfo,hse,hsn,rfl,rfl,g1,g2,.inl ⟨hN,rfl,hq,hk⟩⟩⟩
    |false=>
     rw[Ao]
     refine⟨_,p1,0,rfl,?_⟩
     rw[show((c.1,c.2.1,e1.1,e1.2.1,e1.2.2.1,e1.2.2.2.1,e1.2.2.2.2.1,c.2.2.2.2.2.2.2.1,c.2.2.2.2.2.2.2.2.1,c.2.2.2.2.2.2.2.2.2.1,c.2.2.2.2.2.2.2.2.2.2.1,c.2.2.2.2.2.2.2.2.2.2.2.1,true,c.2.2.2.2.2.2.2.2.2.2.2.2.2.1,c.2.2.2.2.2.2.2.2.2.2.2.2.2.2.1,()):Ap)=Gx c e1 by simp only[Gx,hold]]
     exact plain
   |false=>
    rw[Ao]
    refine⟨_,p1,0,rfl,?_⟩
    rw[show((c.1,c.2.1,e1.1,e1.2.1,e1.2.2.1,e1.2.2.2.1,e1.2.2.2.2.1,c.2.2.2.2.2.2.2.1,c.2.2.2.2.2.2.2.2.1,c.2.2.2.2.2.2.2.2.2.1,c.2.2.2.2.2.2.2.2.2.2.1,c.2.2.2.2.2.2.2.2.2.2.2.1,false,c.2.2.2.2.2.2.2.2.2.2.2.2.2.1,c.2.2.2.2.2.2.2.2.2.2.2.2.2.2.1,()):Ap)=Gx c e1 by simp only[Gx,hold]]
    exact plain
  .simp only[show(z1 != (0:Int))=true by simpa using hz,A9]
   exact nope z1 hz
 |false=>
  simp only[Ao]
  have nxt: ∃c' p z,(br (decide ((c.2.2.2.2.2.2.2.2.2.2.2.2.2.2.1.length:Int)>(0:Int))) (br (f.2.2.2.2.2.2.2.1==IntKind.i64.wrap (c.2.2.1+(1:Int))) (br (z3 != (0:Int)) (some (c,(([]:List YB),()),(z3,()))) (some ((c.1,c.2.1,e3.1,e3.2.1,e3.2.2.1,e3.2.2.2.1,e3.2.2.2.2.1,c.2.2.1,c.2.2.2.1,c.2.2.2.2.1,c.2.2.2.2.2.1,c.2.2.2.2.2.2.1,true,IntKind.i64.wrap (n.1+(5:Int)),([]:List YB),()),(p3,()),((0:Int),())))) (some (c,(([]:List YB),()),((8:Int),())))) (some (c,(([]:List YB),()),((8:Int),()))))=some (c',(p,()),(z,()))/\ChO c n.1 f c' p z:=by
   cases hnx:decide ((c.2.2.2.2.2.2.2.2.2.2.2.2.2.2.1.length:Int)>(0:Int))with
   |false=>exact nope 8 zq7
   |true=>
   have hnx':(c.2.2.2.2.2.2.2.2.2.2.2.2.2.2.1.length:Int)>0:=of_decide_eq_true hnx
   obtain⟨k1,k2,k3⟩:=f5.resolve_left zq0
   simp only[A9]
   cases q3:(f.2.2.2.2.2.2.2.1==IntKind.i64.wrap (c.2.2.1+(1:Int)))with
   |false=>exact nope 8 zq7
   |true=>
   rw[hwN]at q3
   have q3:f.2.2.2.2.2.2.2.1=c.2.2.1+1:=by simpa using q3
   simp only[A9]
   by_cases hz:z3=0
   .subst hz
    simp only[show((0:Int) != (0:Int))=false from rfl,Ao,hw5]
    obtain⟨o1,o2,o3,o4,o5⟩:=E3.ok rfl
    obtain⟨g1,g2⟩:=pl (Fb o1).2.1 o5
    have hN:e3.1=c.2.2.1+1:=by rw[o2];show en.1=_;rw[<-o4,q3]
    have hs0:e3.2.2.1=0:=by
     rw[o2]
     show en.2.2.1=0
     unfold Fm Abz at n2
     simp only[Af,Ag,Aa,Aj,Cq,Ae]at n2
     cases hb:inR (IntKind.i64.wrap (c.2.2.1+(1:Int))) 0 4294967295 with
     |false=>
      rw[hb]at n2
      simp only[Bool.not_false,A9,Option.some.injEq]at n2
      rw[<-n2]
     |true=>
      rw[hb]at n2
      simp only[Bool.not_true,Ao]at n2
      rw[Di zq1,Ag2,Ag3]at n2
      simp only[Ae]at n2
      rw[Al zq1,Ba]at n2
      simp only[Option.some.injEq]at n2
      rw[<-n2]
    obtain⟨_,l1,l2⟩:=Fb o3
    have hmv:=Box (u:=n.1+5) ho o3 hN zq0
    refine⟨moved c e3 (n.1+5),p3,0,rfl,?_,hpn _ g1,fun h=>(h rfl).elim,fun _=>⟨ho,hmv,hn',hfo,hse,hsn,rfl,rfl,g1,g2,.inr ⟨hN,rfl,hs0,q3,k2⟩⟩⟩
    simp only[A7,moved,List.length_nil];omega
   .simp only[show(z3 != (0:Int))=true by simpa using hz,A9]
    exact nope z3 hz
  cases hold:c.2.2.2.2.2.2.2.2.2.2.2.2.1 with
  |false=>exact nxt
  |true=>
   simp only[A9]
   obtain⟨v1,v2,v3⟩:=Ak3 f4 hold f6
   have old: ∃c' p z,(br (z2 != (0:Int)) (some (c,(([]:List YB),()),(z2,()))) (some ((c.1,c.2.1,c.2.2.1,c.2.2.2.1,c.2.2.2.2.1,c.2.2.2.2.2.1,c.2.2.2.2.2.2.1,e2.1,e2.2.1,e2.2.2.1,e2.2.2.2.1,e2.2.2.2.2.1,true,c.2.2.2.2.2.2.2.2.2.2.2.2.2.1,c.2.2.2.2.2.2.2.2.2.2.2.2.2.2.1,()),(p2,()),((0:Int),()))))=some (c',(p,()),(z,()))/\ChO c n.1 f c' p z:=by
    by_cases hz:z2=0
    .subst hz
     simp only[show((0:Int) != (0:Int))=false from rfl,Ao]
     obtain⟨o1,o2,o3,o4,o5⟩:=E2.ok rfl
     obtain⟨g1,g2⟩:=pl (Fb o1).2.1 o5
     have hwo:=Bjv ho hold o3 (by rw[o2];rfl)
     refine⟨_,p2,0,rfl,?_⟩
     rw[show((c.1,c.2.1,c.2.2.1,c.2.2.2.1,c.2.2.2.2.1,c.2.2.2.2.2.1,c.2.2.2.2.2.2.1,e2.1,e2.2.1,e2.2.2.1,e2.2.2.2.1,e2.2.2.2.2.1,true,c.2.2.2.2.2.2.2.2.2.2.2.2.2.1,c.2.2.2.2.2.2.2.2.2.2.2.2.2.2.1,()):Ap)=Amn c e2 by simp only[Amn,hold]]
     exact⟨by simp only[A7,Amn];omega,hpn _ g1,fun h=>(h rfl).elim,fun _=>⟨ho,hwo,hn',hfo,hse,hsn,rfl,rfl,g1,g2,.inl ⟨rfl,rfl,rfl,rfl⟩⟩⟩
    .simp only[show(z2 != (0:Int))=true by simpa using hz,A9]
     exact nope z2 hz
   cases q2:(f.2.2.2.2.2.2.2.1==c.2.2.2.2.2.2.2.1)with
   |false=>exact nxt
   |true=>
    simp only[A9]
    cases (c.2.2.2.2.2.2.2.2.2.2.2.2.2.1 != (-1:Int))with
    |false=>exact old
    |true=>
     simp only[A9]
     cases decide (n.1>c.2.2.2.2.2.2.2.2.2.2.2.2.2.1)with
     |true=>exact nope 9 zq7
     |false=>exact old
theorem Ay4 (c:Ap) (n:YI) (f:Ar) (h:A7 c<=67000000) (h2:Aq f<=67108864) (w1:wfB f.2.2.2.1) (w2:wfB c.2.1):
  ∃c' p z,Oa c n f=some (c',(p,()),(z,()))/\Ln c n f=some (c',(p,()),(z,()))/\ChO c n.1 f c' p z:=by
 obtain⟨c',p,z,k1,k2⟩:=Bjw c n f h h2 w1 w2
 exact⟨c',p,z,(Bf3 c n f h h2 w1 w2).trans k1,k1,k2⟩
theorem A8j (c:Ap) (n:YI) (h:A7 c<=67000000): ∃k b,Xr c n=some ((k,()),(b,()))/\Ad8 c n=some ((k,()),(b,()))/\k.length<=A7 c/\(k.length=0\/k.length=32):=by
 have hc:=h
 simp only[A7]at hc
 unfold Xr Apj Ad8 A3l
 simp only[Af,Ag,Aa,Aj,List.length_nil,Nat.zero_add,List.nil_append]
 rw[Vw c A51 A52,R9 c]
 simp only[Ae]
 cases ho:Ci c with
 |false=>exact⟨[],false,rfl,rfl,by simp,.inl rfl⟩
 |true=>
 obtain⟨f1,f2,f3,f4,f5⟩:=Hh ho
 obtain⟨f6,f7,f8⟩:=Fb f3
 simp only[Bool.not_true,Ao]
 rw[Ch _ zq2,Ch _ zq2,Ch _ zq2,Al (p:=c.2.2.2.2.2.2.2.2.1.length<=4294967296) zq0,Al (p:=c.2.2.2.1.length<=4294967296) zq0,Al (p:=c.2.2.2.2.2.2.2.2.2.2.2.2.2.2.1.length<=4294967296) zq0]
 simp only[Ae,Ba]
 have none: ∃k b,some ((([]:List YB),()),(false,()))=some ((k,()),(b,()))/\some ((([]:List YB),()),(false,()))=some ((k,()),(b,()))/\k.length<=A7 c/\(k.length=0\/k.length=32):=⟨[],false,rfl,rfl,by simp,.inl rfl⟩
 have rest: ∃k b,br (n.1==c.2.2.1) (some ((c.2.2.2.1,()),(true,()))) (br (decide ((c.2.2.2.2.2.2.2.2.2.2.2.2.2.2.1.length:Int)>(0:Int))) (br (n.1==IntKind.i64.wrap (c.2.2.1+(1:Int))) (some ((c.2.2.2.2.2.2.2.2.2.2.2.2.2.2.1,()),(true,()))) (some (([],()),(false,())))) (some (([],()),(false,()))))=some ((k,()),(b,()))/\br (n.1==c.2.2.1) (some ((c.2.2.2.1,()),(true,()))) (br (decide ((c.2.2.2.2.2.2.2.2.2.2.2.2.2.2.1.length:Int)>(0:Int))) (br (n.1==IntKind.i64.wrap (c.2.2.1+(1:Int))) (some ((c.2.2.2.2.2.2.2.2.2.2.2.2.2.2.1,()),(true,()))) (some (([],()),(false,())))) (some (([],()),(false,()))))=some ((k,()),(b,()))/\k.length<=A7 c/\(k.length=0\/k.length=32):=by
  cases (n.1==c.2.2.1)with
  |true=>exact⟨_,true,rfl,rfl,by simp only[A7];omega,.inr f7⟩
  |false=>
   simp only[Ao]
   cases decide ((c.2.2.2.2.2.2.2.2.2.2.2.2.2.2.1.length:Int)>(0:Int))with
   |false=>exact none
   |true=>
    simp only[A9]
    cases (n.1==IntKind.i64.wrap (c.2.2.1+(1:Int)))with
    |false=>exact none
    |true=>exact⟨_,true,rfl,rfl,by simp only[A7];omega,f5.imp id fun q=>q.2.1⟩
 cases hold:c.2.2.2.2.2.2.2.2.2.2.2.2.1 with
 |false=>exact rest
 |true=>
  simp only[A9]
  obtain⟨v1,v2,v3⟩:=Ak3 f4 hold f6
  cases (n.1==c.2.2.2.2.2.2.2.1)with
  |true=>exact⟨_,true,rfl,rfl,by simp only[A7];omega,.inr (Fb v1).2.1⟩
  |false=>exact rest
def Hn (k s b:List YB):Ax:=((16:Int),(0:Int),(0:Int),[],s,(0:Int),(0:Int),b,k,(0:Int),(0:Int),(0:Int),())
theorem A33 (k s b:List YB) (h1:k.length<=4294967296) (h2:s.length<=4294967296) (h3:b.length<=4294967296):Agw (k,()) (s,()) (b,())=some (Hn k s b):=by
 unfold Agw A0i
 simp (disch:=first|omega|(dsimp only;omega)) only[Ag,Aa,Ch,Ae]
 rfl
theorem Br6 (k s b:List YB) (h1:k.length<=4294967296) (h2:s.length<=4294967296) (h3:b.length<=4294967296):A0s (k,()) (s,()) (b,())=some (Hn k s b):=by
 unfold A0s Bca
 simp only[Aj,Aa,List.length_nil,Nat.zero_add,List.nil_append]
 rw[Al h1,Al h2,Al h3]
 rfl
theorem A8k:Ix (List.replicate 32 ((0:Int),())):=⟨rfl,fun q x hx=>by
 rw[List.getElem?_replicate]at hx
 split at hx
 .simp only[Option.some.injEq]at hx;subst hx;exact⟨by decide,by decide⟩
 .cases hx⟩
theorem Bqw (r:Nat):Aaj (List.replicate 32 ((0:Int),())) r=false:=by
 unfold Aaj
 rw[List.getElem?_replicate]
 split<;>simp
theorem Avj:Ip Ace=true:=by
 unfold Ip
 simp only[Bool.and_eq_true]
 refine⟨by decide,⟨Aeb.2 fun q x hx=>by have:=A8k.2 q x hx;omega,by rfl⟩,Ak2.2 fun i hi=>?_,by rfl⟩
 rw[Aeq (w:=Ace) A8k (by show(0:Int)<= -1+1+(i:Nat);omega)]
 exact Bqw _
def Ag5 (n:Int) (k:List YB):YEp:=(n,k,(0:Int),(-1:Int),List.replicate 32 ((0:Int),()),())
theorem Avk {n:Int} {k:List YB} (hn:0<=n/\n<=4294967295) (hk:k.length=32):Fv (Ag5 n k)=true:=by
 unfold Fv
 simp only[Bool.and_eq_true]
 exact⟨Bj.2 hn,by show((k.length:Int)==32)=true;rw[hk];rfl,(show inR 0 0 281474976710656=true by decide),Avj⟩
theorem Avl (n:Int) (k:List YB) (hn:0<=n/\n<=4294967295) (hk:k.length=32):On (n,()) (k,())=some (Ag5 n k)/\Fm (n,()) (k,())=some (Ag5 n k):=by
 have q:((k.length:Int) != 32)=false:=by simp[hk]
 have r:inR n 0 4294967295=true:=Bj.2 hn
 unfold On Ah9 Fm Abz
 simp only[Af,Ag,Aa,Aj,Cd,Cq,Ae,Ag2,Ag3,List.nil_append,List.length_nil,Nat.zero_add,r,Bool.not_true,Ao,q]
 rw[Ch _ zq2,Al zq0]
 exact⟨rfl,rfl⟩
def Aqw (r:Int) (sn k:List YB):Ap:=(r,sn,(0:Int),k,(0:Int),(-1:Int),List.replicate 32 ((0:Int),()),(0:Int),[],(0:Int),(0:Int),[],false,(0:Int),[],())
theorem Ak4 (r:Int) (sn k:List YB) (hr:r=0\/r=1) (hs:sn.length=12) (hk:k.length=32):Us (r,()) (sn,()) (k,())=some (Aqw r sn k)/\Hf (r,()) (sn,()) (k,())=some (Aqw r sn k):=by
 obtain⟨e1,e2⟩:=Avl 0 k zq0 hk
 have q:((k.length:Int) != 32)=false:=by simp[hk]
 have q1:((sn.length:Int)==12)=true:=by simp[hs]
 have q2:((sn.length:Int) != 12)=false:=by simp[hs]
 have q3:inR r 0 1=true:=Bj.2 zq0
 unfold Us Abj Hf Ub
 simp only[Af,Ag,Aa,Aj,Z9,Cq,Hx,Ae,Aem,List.nil_append,List.length_nil,Nat.zero_add,q,q1,q2,q3,Bool.not_true,Ao]
 rw[Ch _ zq2,Al zq0,e1,e2]
 exact⟨rfl,rfl⟩
theorem Ay5 {r:Int} {sn k:List YB} (hr:r=0\/r=1) (hs:sn.length=12) (hk:k.length=32):Ci (Aqw r sn k)=true:=by
 unfold Ci
 simp only[Bool.not_not,Bool.and_eq_true,Bool.or_eq_true,beq_iff_eq]
 refine⟨hr,by show(sn.length:Int)=12;omega,Avk (n:=0) zq0 hk,?_,.inl rfl⟩
 unfold Lr
 rfl
theorem Ais {k l:List YB} (h1:l.length<=100) (h2:k.length<=1048576):(Gg k l).length=32:=by
 unfold Gg Nk
 rw[if_pos ⟨h1,h2⟩]
 exact Od _ _ h2 zq1
def Btd:List YB:=Kf (Da [102,105,110,105,115,104])
def Bjx:List YB:=[((114:Int),()),((111:Int),()),((97:Int),()),((109:Int),())]
def Jh (p:List YB):List YB:=bif G7 (p,())then Gg (H3 Bjx p) Btd else []
theorem Ay6 (p:List YB):Vd (p,())=some (Jh p,()):=by
 unfold Vd Ac0 Abo Abh Jh
 simp only[Af,Ag,Aa,Awq,Ae]
 rw[Amj,Ae,Ae,A00 _ _ zq7,Ae]
 cases G7 (p,())<;>rfl
theorem Bf4 (p:List YB):Ac8 (p,())=some (Jh p,()):=by
 unfold Ac8 Acp Abm Aa1 Jh
 simp only[Af,Ag,Aa,Aai,Ae]
 rw[Amk,Ae,Ae,Aqs _ _ zq7,Ae]
 cases G7 (p,())<;>rfl
theorem Avm {p:List YB} (h:G7 (p,())=true):(Jh p).length=32:=by
 unfold Jh
 rw[h]
 have hl:(H3 Bjx p).length<=32:=by rcases Aql Bjx p with q|q<;>omega
 exact Ais zq7 zq0
def Nm (id:Int) (cn sn:List YB) (tick:Int) (ck:List YB):Bool:=inR id 1 9 && (((cn.length:Int)==12) && (((sn.length:Int)==12) && (inR tick 0 1000000 && ((ck.length:Int)==16))))
def H0 (id:Int) (cn sn:List YB) (tick:Int) (ck:List YB):List YB:=bif Nm id cn sn tick ck then((102:Int),())::(IntKind.u8.wrap id,())::(cn++(sn++(Fk tick 4 4++ck)))else []
theorem Ay7 (id:Int) (cn sn:List YB) (tick:Int) (ck:List YB):Ve (id,()) (cn,()) (sn,()) (tick,()) (ck,())=some (H0 id cn sn tick ck,()):=by
 unfold Ve Ac2 H0 Nm
 simp only[Af,Ag,Aa,Cd,Hx,Ae,bne]
 cases inR id 1 9 with
 |false=>rfl
 |true=>
  cases h1:((cn.length:Int)==12)with
  |false=>rfl
  |true=>
   cases h2:((sn.length:Int)==12)with
   |false=>rfl
   |true=>
    cases inR tick 0 1000000 with
    |false=>rfl
    |true=>
     cases h3:((ck.length:Int)==16)with
     |false=>rfl
     |true=>
      have k1:(cn.length:Int)=12:=by simpa using h1
      have k2:(sn.length:Int)=12:=by simpa using h2
      have k3:(ck.length:Int)=16:=by simpa using h3
      simp only[Bool.not_true,Ao,Bool.and_true,cond_true]
      rw[Oc _ _ zq3,Ae,Ht _ zq6 zq3,Ae]
      simp[cat]
theorem Bf5 (id:Int) (cn sn:List YB) (tick:Int) (ck:List YB):Ac9 (id,()) (cn,()) (sn,()) (tick,()) (ck,())=some (H0 id cn sn tick ck,()):=by
 unfold Ac9 Acq H0 Nm
 simp only[Af,Ag,Aa,Aj,Cq,Ae,bne]
 cases inR id 1 9 with
 |false=>rfl
 |true=>
  cases h1:((cn.length:Int)==12)with
  |false=>rfl
  |true=>
   cases h2:((sn.length:Int)==12)with
   |false=>rfl
   |true=>
    cases inR tick 0 1000000 with
    |false=>rfl
    |true=>
     cases h3:((ck.length:Int)==16)with
     |false=>rfl
     |true=>
      have k1:(cn.length:Int)=12:=by simpa using h1
      have k2:(sn.length:Int)=12:=by simpa using h2
      have k3:(ck.length:Int)=16:=by simpa using h3
      simp only[Bool.not_true,Ao,Bool.and_true,cond_true]
      rw[Al zq1,Ba,Al zq1,Ba,Lb _ _ zq1,Ae]
      simp only
      rw[Al zq4,Ba]
      simp
theorem Ask {id:Int} {cn sn:List YB} {tick:Int} {ck:List YB}:(H0 id cn sn tick ck).length=bif Nm id cn sn tick ck then 46 else 0:=by
 unfold H0
 cases h:Nm id cn sn tick ck with
 |false=>rfl
 |true=>
  unfold Nm at h
  simp only[Bool.and_eq_true,beq_iff_eq]at h
  simp[Gd];omega
def Ux (p:List YB) (id:Int) (cn sn:List YB) (tick:Int) (ck:List YB):List YB:=if (Jh p).length=0\/(H0 id cn sn tick ck).length=0 then []else T5 (Jh p) (H0 id cn sn tick ck)
theorem A8l (p:List YB) (id:Int) (cn sn:List YB) (tick:Int) (ck:List YB):(Ux p id cn sn tick ck).length<=16:=by
 unfold Ux
 split
 .simp
 .exact Bhf _ _
theorem Bhm (p:List YB) (id:Int) (cn sn:List YB) (tick:Int) (ck:List YB):Aif (p,()) (id,()) (cn,()) (sn,()) (tick,()) (ck,())=some (Ux p id cn sn tick ck,()):=by
 unfold Aif Auf Ux
 simp only[Af,Ag,Aa,Ay6,Ay7,Baj,Ae]
 by_cases h1:(Jh p).length=0
 .rw[E0 (by simp[h1]),if_pos (.inl h1)]
 .rw[Di (by simp;exact fun e=>h1 (by simp[e]))]
  by_cases h2:(H0 id cn sn tick ck).length=0
  .rw[E0 (by simp[h2]),if_pos (.inr h2)]
  .rw[Di (by simp;exact fun e=>h2 (by simp[e])),if_neg (by rintro(q|q);exact h1 q;exact h2 q)]
theorem A6b (p:List YB) (id:Int) (cn sn:List YB) (tick:Int) (ck:List YB):Ab7 (p,()) (id,()) (cn,()) (sn,()) (tick,()) (ck,())=some (Ux p id cn sn tick ck,()):=by
 unfold Ab7 Ata Ux
 simp only[Af,Ag,Aa,Bf4,Bf5,Bak,Ae]
 by_cases h1:(Jh p).length=0
 .rw[E0 (by simp[h1]),if_pos (.inl h1)]
 .rw[Di (by simp;exact fun e=>h1 (by simp[e]))]
  by_cases h2:(H0 id cn sn tick ck).length=0
  .rw[E0 (by simp[h2]),if_pos (.inr h2)]
  .rw[Di (by simp;exact fun e=>h2 (by simp[e])),if_neg (by rintro(q|q);exact h1 q;exact h2 q)]
theorem Bmq {p:List YB} {id:Int} {cn sn:List YB} {tick:Int} {ck:List YB} (h1:G7 (p,())=true) (h2:Nm id cn sn tick ck=true):(Ux p id cn sn tick ck).length=16:=by
 have k1:=Avm h1
 have k2:=Ask (id:=id) (cn:=cn) (sn:=sn) (tick:=tick) (ck:=ck)
 rw[h2]at k2
 have k2:(H0 id cn sn tick ck).length=46:=k2
 unfold Ux
 rw[if_neg zq0]
 exact Bhl zq0 zq0
theorem Avn {f:Ar} (h:B7 f=true) (hk:f.1=2):f.2.2.1.length=12/\f.2.2.2.1.length=12/\(0<=f.2.2.2.2.1/\f.2.2.2.2.1<=1000000)/\f.2.2.2.2.2.1.length=16/\f.2.1=0/\f.2.2.2.2.2.2.1.length=0/\f.2.2.2.2.2.2.2.1=0/\f.2.2.2.2.2.2.2.2.1=0/\f.2.2.2.2.2.2.2.2.2.1.length=0/\f.2.2.2.2.2.2.2.2.2.2.1.length=0:=by
 unfold B7 at h
 rw[hk]at h
 simp only[show inR 2 4 8=false by decide,cond_false,show((2:Int)==1)=false by decide,show((2:Int)==2)=true by decide,cond_true,Bool.and_eq_true,beq_iff_eq,Bj]at h
 omega
def Aqx (p:List YB) (id:Int) (f:Ar):Ar:=((3:Int),id,f.2.2.1,f.2.2.2.1,f.2.2.2.2.1,f.2.2.2.2.2.1,Ux p id f.2.2.1 f.2.2.2.1 f.2.2.2.2.1 f.2.2.2.2.2.1,(0:Int),(0:Int),[],[],())
theorem Baa (p:List YB) (id:Int) (f:Ar) (h1:G7 (p,())=true) (h2:1<=id/\id<=9) (h3:B7 f=true) (h4:f.1=2):Au6 (p,()) (id,()) f=some (Aqx p id f,(true,()))/\He (p,()) (id,()) f=some (Aqx p id f,(true,()))/\B7 (Aqx p id f)=true:=by
 obtain⟨a1,a2,a3,a4,a5,a6,a7,a8,a9,a10⟩:=Avn h3 h4
 have hp:Nm id f.2.2.1 f.2.2.2.1 f.2.2.2.2.1 f.2.2.2.2.2.1=true:=by
  unfold Nm
  simp only[Bool.and_eq_true,beq_iff_eq,Bj]
  omega
 have h16:=Bmq h1 hp
 refine⟨?_,?_,?_⟩
 .unfold Au6 Au5
  simp only[Af,Ag,Aa,Kv,Bhm,Ae,h3,h4,Bool.not_true,Ao]
  rw[Di (by rfl),Di (by simp;intro e;rw[e]at h16;cases h16)]
  simp (disch:=first|omega|(dsimp only;omega)) only[Ch,Ae]
  rfl
 .unfold He Rg
  simp only[Af,Ag,Aa,Jd,A6b,Ae,h3,h4,Bool.not_true,Ao]
  rw[Di (by rfl),Di (by simp;intro e;rw[e]at h16;cases h16),Aqu f (by simp only[Aq];omega)]
  simp only[Ae]
  rw[List.eq_nil_of_length_eq_zero a9,List.eq_nil_of_length_eq_zero a10,a7,a8]
  rfl
 .unfold B7 Aqx
  simp only[show inR 3 4 8=false by decide,cond_false,show((3:Int)==1)=false by decide,show((3:Int)==2)=false by decide,show((3:Int)==3)=true by decide,List.length_nil]
  simp only[Bool.and_eq_true,beq_iff_eq,Bj,h16,true_and]
  omega
def Aer (l:List YB) (n:Int):Bool:=((l.length:Int)==0) || ((l.length:Int)==n)
def Ji (n:Ax):Bool:=inR n.1 1 17 && (inR n.2.1 0 9 && (inR n.2.2.1 0 1 && (inR n.2.2.2.2.2.1 0 4294967295 && (inR n.2.2.2.2.2.2.1 0 281474976710655 && (inR n.2.2.2.2.2.2.2.2.2.2.2.1 0 1000000 &&
 (Aer n.2.2.2.1 12 && (Aer n.2.2.2.2.1 12 && (decide ((n.2.2.2.2.2.2.2.1.length:Int)<=100) && (Aer n.2.2.2.2.2.2.2.2.1 32 && Ck (n.2.2.2.2.2.2.2.2.2.1,n.2.2.2.2.2.2.2.2.2.2.1,()))))))))))
theorem Mz {n:Ax}:Ji n=true↔(1<=n.1/\n.1<=17)/\(0<=n.2.1/\n.2.1<=9)/\(0<=n.2.2.1/\n.2.2.1<=1)/\(0<=n.2.2.2.2.2.1/\n.2.2.2.2.2.1<=4294967295)/\(0<=n.2.2.2.2.2.2.1/\n.2.2.2.2.2.2.1<=281474976710655)/\(0<=n.2.2.2.2.2.2.2.2.2.2.2.1/\n.2.2.2.2.2.2.2.2.2.2.2.1<=1000000)/\
  (n.2.2.2.1.length=0\/n.2.2.2.1.length=12)/\(n.2.2.2.2.1.length=0\/n.2.2.2.2.1.length=12)/\n.2.2.2.2.2.2.2.1.length<=100/\(n.2.2.2.2.2.2.2.2.1.length=0\/n.2.2.2.2.2.2.2.2.1.length=32)/\Ck (n.2.2.2.2.2.2.2.2.2.1,n.2.2.2.2.2.2.2.2.2.2.1,())=true:=by
 unfold Ji Aer
 simp only[Bool.and_eq_true,Bool.or_eq_true,beq_iff_eq,Bj,decide_eq_true_eq]
 constructor
 .rintro⟨a,b,c,d,e,f,g,h,i,j,k⟩
  exact⟨a,b,c,d,e,f,by omega,by omega,by omega,by omega,k⟩
 .rintro⟨a,b,c,d,e,f,g,h,i,j,k⟩
  exact⟨a,b,c,d,e,f,by omega,by omega,by omega,by omega,k⟩
theorem A34:Ck ((0:Int),(0:Int),())=true:=by decide
theorem Uy (r:Int) (f:Ar):(D3 r f).length<=65:=by
 have hh:=Ot r f.2.2.2.1 f.2.2.2.2.2.2.2.1 f.2.2.2.2.2.2.2.2.1
 have hle:(Ei r f.2.2.2.1 f.2.2.2.2.2.2.2.1 f.2.2.2.2.2.2.2.2.1).length<=23:=by rw[hh];cases Hy r f.2.2.2.1 f.2.2.2.2.2.2.2.1 f.2.2.2.2.2.2.2.2.1<;>simp
 unfold D3
 cases h:(inR r 0 1 && (B7 f && inR f.1 4 8))with
 |false=>simp
 |true=>
  simp only[Bool.and_eq_true]at h
  have:=Aed h.2.1 h.2.2
  simp;omega
theorem Bda {k b:List YB} (h1:k.length=0\/k.length=32) (h2:b.length<=100):Ji (Ls k b)=true:=by
 rw[Mz]
 simp only[Ls,List.length_nil]
 exact⟨by omega,by omega,by omega,by omega,by omega,by omega,.inl trivial,.inl trivial,h2,h1,A34⟩
theorem A02 {k s b:List YB} (h1:k.length=0\/k.length=32) (h2:s.length=0\/s.length=12) (h3:b.length<=100):Ji (Hn k s b)=true:=by
 rw[Mz]
 simp only[Hn,List.length_nil]
 exact⟨by omega,by omega,by omega,by omega,by omega,by omega,.inl trivial,h2,h3,h1,A34⟩
theorem Aqy {c:Ap} {f:Ar} (h:Ci c=true):Ji (Gy c f)=true:=
 Bda (.inr (Fb (Hh h).2.2.1).2.1) (Nat.le_trans (Uy _ _) zq0)
def H1 (l:List Ax):Prop:=∀n∈l,Ji n=true
theorem Avo {p a b:List YB} (k:G7 (p,())=true) (h1:a.length=12) (h2:b.length=12):(Lo p a b 0).length=32:=by
 have hroot:(Lc p a b).length=32:=by
  unfold Lc
  have hp:inR (p.length:Int) 1 32=true:=k
  rw[if_pos ⟨hp,h1,h2⟩]
  have:=Bj.1 hp
  exact Od _ _ zq1 zq0
 have hfirst:(Iw (Lc p a b)).length=32:=by
  unfold Iw
  rw[if_pos hroot]
  exact Ais zq7 zq0
 unfold Lo
 rw[if_neg zq0]
 unfold Amm
 rw[if_pos zq0]
 exact hfirst
def A03 (a b:Int) (x:A8):Prop:=Ck (x.1,x.2.1,())=true/\eqA x.1 x.2.1 a b=false/\x.2.2.1.length=12/\(0<=x.2.2.2.1/\x.2.2.2.1<=1000006)
theorem H5 {a b:Int} {l:List A8}:D7 (a,b,l,())=true↔Ck (a,b,())=true/\l.length<=3/\(∀x∈l,A03 a b x)/\l.Pairwise (fun y x=>eqA y.1 y.2.1 x.1 x.2.1=false):=by
 have key:D6 (Tj a b l) l=true↔(∀x∈l,A03 a b x)/\l.Pairwise (fun y x=>eqA y.1 y.2.1 x.1 x.2.1=false):=by
  rw[G8,List.pairwise_iff_getElem]
  unfold Tj A03
  simp only[Bool.not_eq_false',Bool.and_eq_true,Bool.not_eq_true',beq_iff_eq,Bj,G8]
  constructor
  .intro h
   refine⟨fun x hx=>?_,fun i j hi hj hij=>?_⟩
   .obtain⟨j,hj⟩:=List.getElem?_of_mem hx
    obtain⟨h1,h2,h3,h4,_⟩:=h j x hj
    exact⟨h1,h2,by omega,h4⟩
   .obtain⟨_,_,_,_,h5⟩:=h j l[j] (List.getElem?_eq_getElem hj)
    exact h5 i l[i] (by rw[List.getElem?_take,if_pos hij];exact List.getElem?_eq_getElem hi)
  .rintro⟨h1,h2⟩ j x hj
   obtain⟨g1,g2,g3,g4⟩:=h1 x (List.mem_of_getElem? hj)
   refine⟨g1,g2,by omega,g4,fun i y hi=>?_⟩
   rw[List.getElem?_take]at hi
   split at hi
   .rename_i hlt
    obtain⟨k1,k2⟩:=List.getElem?_eq_some_iff.1 hi
    obtain⟨k3,k4⟩:=List.getElem?_eq_some_iff.1 hj
    have:=h2 i j k1 k3 hlt
    rw[k2,k4]at this
    exact this
   .cases hi
 unfold D7
 simp only[Bool.and_eq_true,Bool.not_eq_true',decide_eq_false_iff_not,key]
 constructor
 .rintro⟨h1,h2,h3⟩;exact⟨h1,by omega,h3⟩
 .rintro⟨h1,h2,h3⟩;exact⟨h1,by omega,h3⟩
def atA (a b:Int) (x:A8):Bool:=eqA x.1 x.2.1 a b
theorem Amo {a b c d:Int}:eqA a b c d=true↔a=c/\b=d:=by unfold eqA;simp
theorem Ag6 (p:Bn) (a:A6) (h:p.2.2.1.length<=4294967296):Ad5 p a=some (Lw (atA a.1 a.2.1) p.2.2.1,()):=by
 obtain⟨b,d,l,⟨⟩⟩:=p
 simp only at h
 have hl:=Oo (B:=Rq) l (fun i=>(l,(l.length:Int),(i:Int),a.1,a.2.1,())) (fun _ x=>atA a.1 a.2.1 x) (fun i=>((i:Int),())) ()
  (fun i x hi hx=>by
   unfold Rq
   simp (disch:=omega) only[Af,Ag,Aa,Dm hi,A9,B9 hx,Ae,w64]
   rfl)
  (by unfold Rq;simp only[Af,Aa,Dn,Ao])
 unfold Ad5 Apl
 simp only[Ag,Aa,E8]
 rw[show((0:Int))=((0:Nat):Int)from rfl,hl]
 exact Au8 _ _
theorem Bmr {p:Bn} {n:Int} (h:D7 p=true):D7 (Em p n)=true:=by
 obtain⟨a,b,l,⟨⟩⟩:=p
 obtain⟨h1,h2,h3,h4⟩:=H5.1 h
 refine H5.2 ⟨h1,?_,fun x hx=>h3 x ((List.mem_filter.1 hx).1),h4.filter _⟩
 have:=List.length_filter_le (My n) l
 exact Nat.le_trans this h2
def OfH (p:Bn) (n:Int) (p':Bn) (b:Bool):Prop:=(b=false->p'=p)/\Bd p'<=Bd p+50/\(b=true->D7 p=true/\D7 p'=true)
theorem Iy (p:Bn) (n:YI) (a:A6) (d:YBs) (h:Bd p<=4294967296): ∃p' b,Dh p n a d=some (p',(b,()))/\Eo p n a d=some (p',(b,()))/\OfH p n.1 p' b:=by
 have h':=h
 have hl0:p.2.2.1.length<=Bd p:=by simp only[Bd];omega
 obtain⟨d,⟨⟩⟩:=d
 have nope: ∃p' b,some (p,(false,()))=some (p',(b,()))/\some (p,(false,()))=some (p',(b,()))/\OfH p n.1 p' b:=⟨p,false,rfl,rfl,fun _=>rfl,by omega,fun h=>by cases h⟩
 unfold Dh Ab5 Eo Ath
 simp only[Af,Ag,Aa,Aj,E8]
 rw[Wb p zq0,Aim p zq0,Cd,Cq,Hs,Iv,Hx,Nj p h,Wd p h,Vx p n h,Bjt p n h]
 simp only[Ae,bne]
 cases ho:D7 p with
 |false=>exact nope
 |true=>
 simp only[Bool.not_true,Ao]
 cases hn:inR n.1 0 1000000 with
 |false=>exact nope
 |true=>
 simp only[Bool.not_true,Ao]
 cases ha:Ck a with
 |false=>exact nope
 |true=>
 simp only[Bool.not_true,Ao]
 cases hd:((d.length:Int)==12)with
 |false=>exact nope
 |true=>
 simp only[Bool.not_true,Ao]
 cases hat:(and (a.1==p.1) (and (a.2.1==p.2.1) true))with
 |true=>exact nope
 |false=>
 simp only[Ao]
 have ht:Se p n.1=Em p n.1:=by unfold Se;rw[ho,hn];rfl
 rw[ht]
 have hd':d.length=12:=by have:=eq_of_beq hd;omega
 have hn':=Bj.1 hn
 have htn:=Ay3 p n.1
 have hto:=Bmr (n:=n.1) ho
 have htl:(Em p n.1).2.2.1.length<=Bd (Em p n.1):=by simp only[Bd];omega
 have h1:(Em p n.1).1=p.1:=rfl
 have h2:(Em p n.1).2.1=p.2.1:=rfl
 rw[Ag6 _ _ zq0]
 simp only[Ae]
 have hs:=Oo (B:=Qh) (Em p n.1).2.2.1 (fun i=>(n.1,d,(i:Int),p.1,p.2.1,p.2.2.1,a.1,a.2.1,(0:Int),(0:Int),([]:List A8),(Em p n.1).1,(Em p n.1).2.1,(Em p n.1).2.2.1,())) (fun _ x=>atA a.1 a.2.1 x) (fun _=>(false,p.1,p.2.1,p.2.2.1,())) (n.1,d,p.1,p.2.1,p.2.2.1,a.1,a.2.1,(0:Int),(0:Int),([]:List A8),(Em p n.1).1,(Em p n.1).2.1,(Em p n.1).2.2.1,())
  (fun i x hi hx=>by
   unfold Qh
   simp (disch:=omega) only[Af,Ag,Aa,Dm hi,A9,B9 hx,Ae,w64]
   rw[show Ed (p.1,p.2.1,p.2.2.1,())=some p from Wd p h]
   rfl)
  (by unfold Qh;simp only[Af,Aa,Dn,Ao])
 rw[show Ay Qh (n.1,d,(0:Int),p.1,p.2.1,p.2.2.1,a.1,a.2.1,(0:Int),(0:Int),([]:List A8),(Em p n.1).1,(Em p n.1).2.1,(Em p n.1).2.2.1,())=_ from hs]
 simp only[Ae]
 unfold Lw
 cases hf:Ih (fun _ x=>atA a.1 a.2.1 x) (Em p n.1).2.2.1 0 with
 |some k=>
  simp only[Option.elim,Br7]
  simp only[show((k:Int)≥0)=True from eq_true zq0,decide_true,A9]
  exact nope
 |none=>
  simp only[Option.elim,A0v]
  simp only[show((-1:Int)≥0)=False from eq_false zq0,decide_false,Ao]
  rw[show Ed (p.1,p.2.1,p.2.2.1,())=some p from Wd p h]
  simp only[Ae]
  cases hk:(((Em p n.1).2.2.1.length:Int)==3)with
  |true=>exact nope
  |false=>
  simp only[Ao]
  have hp: ∃l,Em p n.1=(p.1,p.2.1,l,()):=⟨_,rfl⟩
  obtain⟨l,hl⟩:=hp
  rw[hl]at hto hf hk htn htl ⊢
  obtain⟨q1,q2,q3,q4⟩:=H5.1 hto
  simp only at hf hk htl ⊢
  have hk': ¬(l.length:Int)=3:=by simpa using hk
  rw[Ch _ zq2]
  simp only[Ae,List.nil_append,List.length_nil,Nat.zero_add,List.length_cons]
  rw[Al zq0,Al zq0,Ba,Ba,w64 zq0]
  refine⟨_,true,rfl,rfl,fun h=>(by cases h),?_,fun _=>⟨ho,H5.2 ⟨q1,?_,?_,?_⟩⟩⟩
  .simp only[Bd]at htn ⊢
   simp only[Bd,List.length_append,List.length_cons,List.length_nil,Sd,Bu,Ga]
   omega
  .simp only[List.length_append,List.length_cons,List.length_nil];omega
  .intro x hx
   rcases List.mem_append.1 hx with hx|hx
   .exact q3 x hx
   .simp only[List.mem_singleton]at hx
    subst hx
    exact⟨ha,hat,hd',by dsimp only;omega⟩
  .rw[List.pairwise_append]
   refine⟨q4,List.pairwise_singleton _ _,fun x hx y hy=>?_⟩
   simp only[List.mem_singleton]at hy
   subst hy
   obtain⟨j,hj⟩:=List.getElem?_of_mem hx
   have:=Aca.1 hf j x hj
   exact this
theorem Bdb {E:Type} {q:E->Bool} {l:List E} {i:Nat} {x:E} (hx:l[i]? =some x) (hq:q x=false) (h: ∀j y,j≠i->l[j]? =some y->q y=true):l.filter q=l.take i++l.drop (i+1):=by
 obtain⟨hi,he⟩:=List.getElem?_eq_some_iff.1 hx
 have e:l=l.take i++(l[i]::l.drop (i+1)):=by rw[<-List.drop_eq_getElem_cons hi,List.take_append_drop]
 have h1:(l.take i).filter q=l.take i:=by
  rw[List.filter_eq_self]
  intro y hy
  obtain⟨j,hj⟩:=List.getElem?_of_mem hy
  rw[List.getElem?_take]at hj
  split at hj
  .exact h j y zq0 hj
  .cases hj
 have h2:(l.drop (i+1)).filter q=l.drop (i+1):=by
  rw[List.filter_eq_self]
  intro y hy
  obtain⟨j,hj⟩:=List.getElem?_of_mem hy
  rw[List.getElem?_drop]at hj
  exact h (i+1+j) y zq0 hj
 conv=>lhs;rw[e]
 rw[List.filter_append,List.filter_cons_of_neg (by rw[he,hq];simp),h1,h2]
theorem Avp (p:Bn) (n:YI) (a:A6) (d:YBs) (h:Bd p<=4294967296): ∃p' b,Pc p n a d=some (p',(b,()))/\Ad9 p n a d=some (p',(b,()))/\OfH p n.1 p' b:=by
 have h':=h
 have hl0:p.2.2.1.length<=Bd p:=by simp only[Bd];omega
 obtain⟨d,⟨⟩⟩:=d
 have nope: ∃p' b,some (p,(false,()))=some (p',(b,()))/\some (p,(false,()))=some (p',(b,()))/\OfH p n.1 p' b:=⟨p,false,rfl,rfl,fun _=>rfl,by omega,fun h=>by cases h⟩
 unfold Pc Adu Ad9 A3o A3n A3m
 simp only[Af,Ag,Aa,Aj,E8]
 rw[Wb p zq0,Aim p zq0,Cd,Cq,Nj p h,Wd p h,Ag6 p a zq0]
 simp only[Ae,I5,Z8]
 cases ho:D7 p with
 |false=>exact nope
 |true=>
 obtain⟨a1,a2,l,⟨⟩⟩:=p
 obtain⟨q1,q2,q3,q4⟩:=H5.1 ho
 simp only[Bd]at h' hl0
 simp only[Bool.not_true,Ao]
 have hs:=Oo (B:=R0) l (fun i=>((i:Int),a1,a2,l,a.1,a.2.1,(0:Int),(0:Int),([]:List YB),(0:Int),())) (fun _ x=>atA a.1 a.2.1 x) (fun i=>(true,(l[i]?.getD ((0:Int),(0:Int),[],(0:Int),())).1,(l[i]?.getD ((0:Int),(0:Int),[],(0:Int),())).2.1,(l[i]?.getD ((0:Int),(0:Int),[],(0:Int),())).2.2.1,(l[i]?.getD ((0:Int),(0:Int),[],(0:Int),())).2.2.2.1,())) ((0:Int),(0:Int),([]:List YB),(0:Int),())
  (fun i x hi hx=>by
   have hnx:=Ob (f:=Ga) hx
   unfold R0
   simp (disch:=omega) only[Af,Ag,Aa,Dm hi,A9,B9 hx,Ae,w64]
   rw[Ain _ zq0,hx]
   rfl)
  (by unfold R0;simp only[Af,Aa,Dn,Ao])
 rw[show Ay R0 ((0:Int),a1,a2,l,a.1,a.2.1,(0:Int),(0:Int),([]:List YB),(0:Int),())=_ from hs]
 simp only[Ae]
 unfold Lw
 cases hf:Ih (fun _ x=>atA a.1 a.2.1 x) l 0 with
 |none=>
  simp only[Option.elim,A0v,Ae]
  cases inR n.1 0 1000000 with
  |false=>exact nope
  |true=>exact nope
 |some k=>
  obtain⟨j,x,hkj,hx,hq,hbef⟩:=Sb hf
  rw[Nat.zero_add]at hkj
  subst hkj
  have hxi:=(List.getElem?_eq_some_iff.1 hx).1
  have hxm:=List.mem_of_getElem? hx
  simp only[Option.elim,Br7,Ae,hx,Option.getD_some,Bool.not_true,Ao]
  cases hn:inR n.1 0 1000000 with
  |false=>exact nope
  |true=>
  simp only[Bool.not_true,Ao]
  simp only[show((k:Int)<0)=False from eq_false zq0,decide_false,Ao,B9 hx,Ae]
  rw[show Dz x.2.2.1 d=Dz d x.2.2.1 by unfold Dz;exact decide_eq_decide.2 ⟨Eq.symm,Eq.symm⟩]
  cases hsd:Dz d x.2.2.1 with
  |false=>exact nope
  |true=>
  simp only[Bool.not_true,Ao]
  cases hu:decide (n.1>x.2.2.2.1)with
  |true=>exact nope
  |false=>
  simp only[Ao]
  have hother: ∀j y,j≠k->l[j]? =some y->(!atA a.1 a.2.1 y)=true:=by
   intro j y hj hy
   rw[Bool.not_eq_true']
   have e:=Amo.1 hq
   obtain⟨k1,k2⟩:=List.getElem?_eq_some_iff.1 hy
   obtain⟨k3,k4⟩:=List.getElem?_eq_some_iff.1 hx
   rw[List.pairwise_iff_getElem]at q4
   rcases Nat.lt_or_gt_of_ne hj with hlt|hgt
   .have:=hbef j y hlt hy
    exact this
   .have:=q4 k j k3 k1 hgt
    rw[k4,k2]at this
    cases hy':atA a.1 a.2.1 y with
    |false=>rfl
    |true=>
     have e2:=Amo.1 hy'
     rw[Amo.2 ⟨e.1.trans e2.1.symm,e.2.trans e2.2.symm⟩]at this
     cases this
  have hsp:=Bdb hx (q:=fun y=> !atA a.1 a.2.1 y) (by show(!atA a.1 a.2.1 x)=false;rw[show atA a.1 a.2.1 x=true from hq];rfl) hother
  have hl:=Ct (B:=R7) l.length (fun i=>((i:Int),a1,a2,l,a.1,a.2.1,(0:Int),(0:Int),([]:List A8),a.1,a.2.1,(l.take i).filter (fun y=> !atA a.1 a.2.1 y),())) ((0:Int),(0:Int),([]:List A8),a.1,a.2.1,l.filter (fun y=> !atA a.1 a.2.1 y),())
   (fun i hi=>by
    have hx:=List.getElem?_eq_getElem hi
    have hle:=Avg (p:=fun y=> !atA a.1 a.2.1 y) (l:=l) (i:=i)
    have hs:=Akx (p:=fun y=> !atA a.1 a.2.1 y) hx
    have hn:=Ob (f:=Ga) hx
    unfold R7
    simp only[Af,Ag,Aa,Aj,Dm hi,A9,B9 hx,Ae]
    rw[w64 zq0,hs,Ain _ zq0]
    simp only[Ae]
    have hp:(!atA a.1 a.2.1 l[i])= !(and (l[i].1==a.1) (and (l[i].2.1==a.2.1) true)):=rfl
    rw[hp]
    cases (!(and (l[i].1==a.1) (and (l[i].2.1==a.2.1) true)))with
    |false=>simp[Ao]
    |true=>
     simp only[A9,cond_true]
     rw[Al zq1,Ba]
     rfl)
   (by unfold R7;simp only[Af,Aa,Dn,Ao,List.take_length])
  rw[show Ay R7 ((0:Int),a1,a2,l,a.1,a.2.1,(0:Int),(0:Int),([]:List A8),a.1,a.2.1,([]:List A8),())=_ from hl]
  simp only[Ae]
  have w1:IntKind.i64.wrap ((k:Int)+1)=(k:Int)+1:=w64 zq0
  have w2:(((l.length:Nat):Int)).toNat=l.length:=by omega
  have w3:((k:Nat):Int).toNat=k:=by omega
  have w4:(((k:Nat):Int)+1).toNat=k+1:=by omega
  have w5:(l.take k).length+(l.drop (k+1)).length<=4294967296:=by simp only[List.length_take,List.length_drop];omega
  have w6:Nat.ble (l.take k).length (k+1)=true:=Nat.ble_eq_true_of_le (by simp only[List.length_take];omega)
  have w7:Nat.blt 0 l.length=true:=Nat.ble_eq_true_of_le zq0
  simp only[w1,hsp,show((0:Int)<=(k:Int))=True from eq_true zq0,show((k:Int)<=(l.length:Int))=True from eq_true zq0,show((0:Int)<=(k:Int)+1)=True from eq_true zq0,show((k:Int)+1<=(l.length:Int))=True from eq_true zq0,show((l.length:Int)<=(l.length:Int))=True from eq_true zq0,decide_true,Ba,w2,w3,w4,Int.toNat_zero,List.drop_zero,List.take_length,eq_true w5,w6,w7]
  rw[<-hsp]
  have e:=Amo.1 hq
  refine⟨_,true,rfl,rfl,fun h=>(by cases h),?_,fun _=>⟨ho,H5.2 ⟨?_,?_,?_,q4.filter _⟩⟩⟩
  .have h1:=List.length_filter_le (fun y=> !atA a.1 a.2.1 y) l
   have h2:=Aky (f:=Ga) (p:=fun y=> !atA a.1 a.2.1 y) (l:=l)
   simp only[Bd];omega
  .have:=(q3 x hxm).1
   rw[e.1,e.2]at this
   exact this
  .have h1:=List.length_filter_le (fun y=> !atA a.1 a.2.1 y) l
   omega
  .intro y hy
   obtain⟨m1,m2⟩:=List.mem_filter.1 hy
   obtain⟨g1,g2,g3,g4⟩:=q3 y m1
   exact⟨g1,by have:atA a.1 a.2.1 y=false:=(by simpa using m2);exact this,g3,g4⟩
def Amp (c:Ap) (e:YEp):Ap:=(c.1,c.2.1,e.1,e.2.1,e.2.2.1,e.2.2.2.1,e.2.2.2.2.1,c.2.2.1,c.2.2.2.1,c.2.2.2.2.1,c.2.2.2.2.2.1,c.2.2.2.2.2.2.1,true,(-1:Int),c.2.2.2.2.2.2.2.2.2.2.2.2.2.2.1,())
theorem Bms {c:Ap} {e:YEp} (h:Ci c=true) (hr:c.1=1) (he:Fv e=true) (h1:e.1=c.2.2.1+1):Ci (Amp c e)=true:=by
 obtain⟨f1,f2,f3,f4,f5⟩:=Hh h
 have f6:=(Fb f3).1
 have f7:=(Fb he).1
 unfold Ci at h ⊢
 simp only[Bool.not_not,Bool.and_eq_true]at h ⊢
 refine⟨h.1,h.2.1,he,?_,?_⟩
 .unfold Lr
  have hh:Xt (Amp c e)=true:=rfl
  rw[hh]
  simp only[Bool.not_true,cond_false,Bool.not_not,Bool.and_eq_true,Bool.or_eq_true,Bool.not_eq_true',bne_eq_false_iff_eq]
  refine⟨f3,?_,.inr ⟨rfl,by show(c.1==(1:Int))=true;rw[hr];rfl⟩⟩
  show c.2.2.1=IntKind.i64.wrap (e.1-1)
  have f6':0<=c.2.2.1/\c.2.2.1<=4294967295:=f6
  rw[w64 zq0];omega
 .rcases f5 with f5|f5
  .have:(((J6 (Amp c e)).length:Int)==0)=true:=by
    have e1:J6 (Amp c e)=c.2.2.2.2.2.2.2.2.2.2.2.2.2.2.1:=rfl
    rw[e1,f5];rfl
   rw[this];rfl
  .omega
def TuH (c:Ap) (c':Ap) (b:Bool):Prop:=(b=false->c'=c)/\A7 c'<=A7 c+200/\(b=true->Ci c=true/\c.1=1/\Ci c'=true/\c'.1=c.1/\c'.2.1=c.2.1)
theorem Bqx (c:Ap) (h:A7 c<=67000000): ∃c' b,A0p c=some (c',(b,()))/\A0t c=some (c',(b,()))/\TuH c c' b:=by
 have nope: ∃c' b,some (c,(false,()))=some (c',(b,()))/\some (c,(false,()))=some (c',(b,()))/\TuH c c' b:=⟨c,false,rfl,rfl,fun _=>rfl,by omega,fun h=>by cases h⟩
 have hc:=h
 simp only[A7]at hc
 unfold A0p A0k A0t Bcb
 simp only[Af,Ag,Aa]
 rw[Tm c zq0,Sc c zq0,Vw c A51 A52,R9 c,A8d,Aip]
 simp only[Ae]
 cases ho:Ci c with
 |false=>exact nope
 |true=>
 simp only[Bool.not_true,Ao]
 cases hr:(c.1==(1:Int))with
 |false=>rw[show(c.1 != (1:Int))=true by unfold bne;rw[hr];rfl];exact nope
 |true=>
 rw[show(c.1 != (1:Int))=false by unfold bne;rw[hr];rfl,Ao,Ao]
 cases hm:(c.2.2.1==(4294967295:Int))with
 |true=>exact nope
 |false=>
 simp only[Ao]
 obtain⟨f1,f2,f3,f4,f5⟩:=Hh ho
 have f6:=(Fb f3).1
 have f6:0<=c.2.2.1/\c.2.2.1<=4294967295:=f6
 have f7:c.2.2.2.1.length=32:=(Fb f3).2.1
 have hm':c.2.2.1≠4294967295:=by simpa using hm
 have hk:(Gg c.2.2.2.1 Qb).length=32:=Ais zq7 zq0
 rw[w64 zq0]
 obtain⟨n1,n2⟩:=Avl (c.2.2.1+1) (Gg c.2.2.2.1 Qb) zq0 hk
 rw[n1,n2]
 refine⟨Amp c (Ag5 (c.2.2.1+1) (Gg c.2.2.2.1 Qb)),true,rfl,rfl,fun h=>(by cases h),?_,fun _=>⟨ho,eq_of_beq hr,Bms ho (eq_of_beq hr) (Avk zq0 hk) rfl,rfl,rfl⟩⟩
 simp only[A7,Amp,Ag5,List.length_replicate]
 omega
def HrH (c:Ap) (c':Ap) (z:Int):Prop:=(z≠0->c'=c)/\A7 c'<=A7 c+200/\(z=0->Ci c=true/\c.1=1/\Ci c'=true/\c'.1=c.1/\c'.2.1=c.2.1)
theorem Avq (c:Ap) (n:YI) (p:YBs) (h:A7 c<=67000000): ∃c' z,P3 c n p=some (c',(z,()))/\Vh c n p=some (c',(z,()))/\HrH c c' z:=by
 have nope: ∃c' z,some (c,((6:Int),()))=some (c',(z,()))/\some (c,((6:Int),()))=some (c',(z,()))/\HrH c c' z:=⟨c,6,rfl,rfl,fun _=>rfl,by omega,fun h=>by cases h⟩
 have hc:=h
 simp only[A7]at hc
 obtain⟨t,b,t1,t2,t3,t4,t5⟩:=Bqx c h
 unfold P3 Ac5 Vh Asi
 simp only[Af,Ag,Aa]
 rw[Tm c zq0,Sc c zq0,Vw c A51 A52,R9 c,Cd,Cq,Ay2,Akw,t1,t2]
 simp only[Ae,I5,Z8]
 cases ho:Ci c with
 |false=>exact nope
 |true=>
 simp only[Bool.not_true,Ao]
 cases hr:(c.1==(1:Int))with
 |false=>rw[show(c.1 != (1:Int))=true by unfold bne;rw[hr];rfl];exact nope
 |true=>
 rw[show(c.1 != (1:Int))=false by unfold bne;rw[hr];rfl,Ao,Ao]
 cases hn:inR n.1 0 4294967294 with
 |false=>exact nope
 |true=>
 simp only[Bool.not_true,Ao]
 cases hs:Dz p.1 (Uw (IntKind.i64.wrap (n.1+1)))with
 |false=>exact nope
 |true=>
 simp only[Bool.not_true,Ao]
 obtain⟨f1,f2,f3,f4,f5⟩:=Hh ho
 have f6:=(Fb f3).1
 have f6:0<=c.2.2.1/\c.2.2.1<=4294967295:=f6
 rw[w64 zq0]
 have same: ∃c' z,some (c,((0:Int),()))=some (c',(z,()))/\some (c,((0:Int),()))=some (c',(z,()))/\HrH c c' z:=⟨c,0,rfl,rfl,fun _=>rfl,by omega,fun _=>⟨ho,eq_of_beq hr,ho,rfl,rfl⟩⟩
 cases hA:(n.1==c.2.2.1-1)with
 |true=>
  have e1:=eq_of_beq hA
  rw[show(n.1==c.2.2.1)=false by simp;omega,A9,Ao,A9]
  exact same
 |false=>
  rw[Ao]
  cases hB:(n.1==c.2.2.1)with
  |false=>rw[show(n.1 != c.2.2.1)=true by unfold bne;rw[hB];rfl];exact nope
  |true=>
   rw[show(n.1 != c.2.2.1)=false by unfold bne;rw[hB];rfl,Ao,A9]
   cases b with
   |false=>exact nope
   |true=>exact⟨t,0,rfl,rfl,fun h=>(h rfl).elim,t4,fun _=>t5 rfl⟩
def Jj (s:Ak) (X:Ap) (P:Bn) (la:Int):Ak:=(s.1,s.2.1,s.2.2.1,X.1,X.2.1,X.2.2.1,X.2.2.2.1,X.2.2.2.2.1,X.2.2.2.2.2.1,X.2.2.2.2.2.2.1,X.2.2.2.2.2.2.2.1,X.2.2.2.2.2.2.2.2.1,X.2.2.2.2.2.2.2.2.2.1,X.2.2.2.2.2.2.2.2.2.2.1,X.2.2.2.2.2.2.2.2.2.2.2.1,X.2.2.2.2.2.2.2.2.2.2.2.2.1,X.2.2.2.2.2.2.2.2.2.2.2.2.2.1,X.2.2.2.2.2.2.2.2.2.2.2.2.2.2.1,P.1,P.2.1,P.2.2.1,s.2.2.2.2.2.2.2.2.2.2.2.2.2.2.2.2.2.2.2.2.2.1,la,s.2.2.2.2.2.2.2.2.2.2.2.2.2.2.2.2.2.2.2.2.2.2.2.1,())
def SeH (s:Ak) (m:Nat) (r:Ak) (os:List Bc) (ns:List Ax):Prop:=A5 r<=A5 s+900/\os.length+Bu Ig os<=4*(A5 s+m+900)/\ns.length+Bu Gb ns<=12*(A5 s+m+900)
theorem A8m (s:Ak) (X:Ap) (P:Bn) (la:Int):A5 (Jj s X P la)+A7 (Cm s)+Bd (Bm s)=A5 s+A7 X+Bd P:=by
 simp only[A5,Jj,A7,Cm,Bd,Bm];omega
theorem Bf6 (s:Ak) (n:YI) (a:A6) (f:Ar) (d:YBs) (h:A5 s<=8388608) (h2:Aq f<=8388608) (h3:d.1.length<=8388608) (w1:wfB f.2.2.2.1) (w2:wfB (Cm s).2.1):
  ∃r os ns k,Lm s n a f d=some (r,(os,()),(ns,()),(k,()))/\Au4 s n a f d=some (r,(os,()),(ns,()),(k,()))/\SeH s (Aq f+d.1.length) r os ns:=by
 have none: ∃r os ns k,some (s,(([]:List Bc),()),(([]:List Ax),()),(false,()))=some (r,(os,()),(ns,()),(k,()))/\some (s,(([]:List Bc),()),(([]:List Ax),()),(false,()))=some (r,(os,()),(ns,()),(k,()))/\SeH s (Aq f+d.1.length) r os ns:=⟨s,[],[],false,rfl,rfl,by omega,by simp[Bu],by simp[Bu]⟩
 have hch:=Abr s
 have hpa:=Avh s
 have hck:=Er (Cm s)
 have hsl:s.2.2.1.length<=A5 s:=by simp only[A5];omega
 have htl:=Uy 0 f
 obtain⟨ch,p,z,o1,o2,O1,O2,O3,O4⟩:=Ay4 (Cm s) n f zq0 zq0 w1 w2
 obtain⟨k,kb,y1,y2,y3,y4⟩:=A8j (Cm s) (f.2.2.2.2.2.2.2.1,()) zq0
 have hchk:=Er ch
 unfold Lm Xe Au4 Au3
 simp only[Af,Ag,Aa,Aj,Amb,Amc,Z7,Amd,Ame,Amf,Ti]
 rw[Mx s zq0,Acd s zq0,Sa s zq0,Aab s zq0,Hs,Iv]
 simp only[Ae]
 cases ho:Cs s with
 |false=>exact none
 |true=>
 simp only[Bool.not_true,Ao]
 by_cases hd0:s.2.2.2.2.2.2.2.2.2.2.2.2.2.2.2.2.2.2.2.2.2.2.2.1=true
 .rw[E0 hd0,E0 hd0];exact none
 have hd:s.2.2.2.2.2.2.2.2.2.2.2.2.2.2.2.2.2.2.2.2.2.2.2.1=false:=by simpa using hd0
 rw[Di hd,Di hd]
 cases ha:Ck a with
 |false=>exact none
 |true=>
 simp only[Bool.not_true,Ao]
 rw[show Oa _ n f=some (ch,(p,()),(z,()))from o1,show Ln _ n f=some (ch,(p,()),(z,()))from o2,show Xr _ (f.2.2.2.2.2.2.2.1,())=some ((k,()),(kb,()))from y1,show Ad8 _ (f.2.2.2.2.2.2.2.1,())=some ((k,()),(kb,()))from y2,Tl _ _ zq0,Xx _ _ zq0]
 simp only[Ae]
 by_cases hz:z=0
 case neg=>
  rw[E0 (by simpa using hz),E0 (by simpa using hz)]
  exact none
 case pos=>
 subst hz
 rw[Di (by rfl),Di (by rfl),A33 _ _ _ zq0 zq0 zq0,Br6 _ _ _ zq0 zq0 zq0]
 simp only[Ae]
 have d2:decide (s.2.2.1.length<=4294967296)=true:=Al zq0
 have d4:decide (p.length<=4294967296)=true:=Al zq0
 have tail: ∀(X:Ap) (P:Bn) (os:List Bc) (ns:List Ax) (p':Bn) (b:Bool) (y:Ap) (g:Ar) (zz:Int),A7 X<=A7 (Cm s)+400->Bd P<=Bd (Bm s)+50->A7 y<=A7 (Cm s)+400->Bd p'<=Bd (Bm s)+100->Aq g<=A5 s+d.1.length+432->
   os.length+Bu Ig os<=2*(A5 s+(Aq f+d.1.length)+900)->ns.length+Bu Gb ns<=8*(A5 s+(Aq f+d.1.length)+900)->
   ∃r os' ns' k,br (!b) (some (Jj s X P n.1,(os,()),(ns,()),(false,()))) (br (zz != (0:Int)) (some (Jj s X P n.1,(os,()),(ns,()),(false,()))) (some (Jj s y p' n.1,(os++[(a.1,a.2.1,g.1,g.2.1,g.2.2.1,g.2.2.2.1,g.2.2.2.2.1,g.2.2.2.2.2.1,g.2.2.2.2.2.2.1,g.2.2.2.2.2.2.2.1,g.2.2.2.2.2.2.2.2.1,g.2.2.2.2.2.2.2.2.2.1,g.2.2.2.2.2.2.2.2.2.2.1,())],()),(ns++[Gy y g],()),(true,()))))=some (r,(os',()),(ns',()),(k,()))/\
    br (!b) (some (Jj s X P n.1,(os,()),(ns,()),(false,()))) (br (zz != (0:Int)) (some (Jj s X P n.1,(os,()),(ns,()),(false,()))) (some (Jj s y p' n.1,(os++[(a.1,a.2.1,g.1,g.2.1,g.2.2.1,g.2.2.2.1,g.2.2.2.2.1,g.2.2.2.2.2.1,g.2.2.2.2.2.2.1,g.2.2.2.2.2.2.2.1,g.2.2.2.2.2.2.2.2.1,g.2.2.2.2.2.2.2.2.2.1,g.2.2.2.2.2.2.2.2.2.2.1,())],()),(ns++[Gy y g],()),(true,()))))=some (r,(os',()),(ns',()),(k,()))/\SeH s (Aq f+d.1.length) r os' ns':=by
  intro X P os ns p' b y g zz h1 h2 h3 h4 h5 h6 h7
  have e1:=A8m s X P n.1
  have e2:=A8m s y p' n.1
  have e3:=Uy y.1 g
  have e4:=Er y
  cases b with
  |false=>exact⟨_,_,_,_,rfl,rfl,by omega,by omega,by omega⟩
  |true=>
   simp only[Bool.not_true,Ao]
   cases hzz:(zz != (0:Int))with
   |true=>exact⟨_,_,_,_,rfl,rfl,by omega,by omega,by omega⟩
   |false=>
    refine⟨_,_,_,_,rfl,rfl,by omega,?_,?_⟩
    .simp only[Sd,Bu,Ig,List.length_append,List.length_nil,List.length_cons]
     simp only[Aq]at*
     omega
    .simp only[Sd,Bu,List.length_append,List.length_nil,List.length_cons]
     have e5:Gb (Gy y g)=y.2.2.2.1.length+(D3 y.1 g).length:=by simp only[Gb,Gy,Ls,List.length_nil];omega
     omega
 simp only[List.length_nil,List.nil_append,List.length_cons,Nat.zero_add,Nat.reduceLeDiff,decide_true,Ba]
 cases h4:(f.1==(4:Int))with
 |true=>
  simp (disch:=first|omega|(dsimp only;omega)) only[A9,Ch]
  obtain⟨p',b,of1,of2,OF1,OF2,OF3⟩:=Iy (Bm s) n a d zq0
  obtain⟨y,g,zz,g1,g2,e',GS1,GS2,GS3,_⟩:=Gt (ch) 5 d.1 zq0
  have hyk:=Er y
  rw[show Dh _ n a d=some (p',(b,()))from of1,show Eo _ n a d=some (p',(b,()))from of2,show Cn _ (5,()) d=some (y,g,(zz,()))from g1,show Dq _ (5,()) d=some (y,g,(zz,()))from g2]
  simp only[Ae]
  rw[Ii y g zq0 zq0,Jf y g zq0 zq0]
  simp only[Ae,List.length_nil,List.nil_append,List.append_nil,List.length_cons,List.length_append,Nat.zero_add,Nat.reduceAdd,Nat.reduceLeDiff,decide_true,Ba,d2,d4]
  exact tail (ch) (Bm s) ([]) ([Hn k s.2.2.1 (D3 0 f),((6:Int),(0:Int),(0:Int),([]:List YB),s.2.2.1,f.2.2.2.2.2.2.2.1,f.2.2.2.2.2.2.2.2.1,p,([]:List YB),(0:Int),(0:Int),n.1,())]) p' b y g zz zq0 zq0 zq0 zq0 zq0 (by simp only[Bu,Ig,List.length_nil,List.length_cons];simp only[Aq]at*;omega) (by simp only[Bu,Gb,Hn,Gy,Ls,List.length_nil,List.length_cons];omega)
 |false=>
 simp only[Ao]
 cases h6:(f.1==(6:Int))with
 |true=>
  simp only[A9]
  obtain⟨pa,ab,an1,an2,AN1,AN2,AN3⟩:=Avp (Bm s) n a (p,()) zq0
  rw[show Pc _ n a (p,())=some (pa,(ab,()))from an1,show Ad9 _ n a (p,())=some (pa,(ab,()))from an2]
  simp only[Ae]
  cases ab with
  |true=>
   simp (disch:=first|omega|(dsimp only;omega)) only[A9,Ch]
   obtain⟨p',b,of1,of2,OF1,OF2,OF3⟩:=Iy (pa) n a d zq0
   obtain⟨y,g,zz,g1,g2,e',GS1,GS2,GS3,_⟩:=Gt (ch) 5 d.1 zq0
   have hyk:=Er y
   rw[show Dh _ n a d=some (p',(b,()))from of1,show Eo _ n a d=some (p',(b,()))from of2,show Cn _ (5,()) d=some (y,g,(zz,()))from g1,show Dq _ (5,()) d=some (y,g,(zz,()))from g2]
   simp only[Ae]
   rw[Ii y g zq0 zq0,Jf y g zq0 zq0]
   simp only[Ae,List.length_nil,List.nil_append,List.append_nil,List.length_cons,List.length_append,Nat.zero_add,Nat.reduceAdd,Nat.reduceLeDiff,decide_true,Ba,d2,d4]
   exact tail (ch) (pa) ([]) ([Hn k s.2.2.1 (D3 0 f),((9:Int),(0:Int),(0:Int),([]:List YB),s.2.2.1,(0:Int),(0:Int),p,([]:List YB),a.1,a.2.1,n.1,())]) p' b y g zz zq0 zq0 zq0 zq0 zq0 (by simp only[Bu,Ig,List.length_nil,List.length_cons];simp only[Aq]at*;omega) (by simp only[Bu,Gb,Hn,Gy,Ls,List.length_nil,List.length_cons];omega)
  |false=>
   simp only[Ao]
   obtain⟨p',b,of1,of2,OF1,OF2,OF3⟩:=Iy (Bm s) n a d zq0
   obtain⟨y,g,zz,g1,g2,e',GS1,GS2,GS3,_⟩:=Gt (ch) 5 d.1 zq0
   have hyk:=Er y
   rw[show Dh _ n a d=some (p',(b,()))from of1,show Eo _ n a d=some (p',(b,()))from of2,show Cn _ (5,()) d=some (y,g,(zz,()))from g1,show Dq _ (5,()) d=some (y,g,(zz,()))from g2]
   simp only[Ae]
   rw[Ii y g zq0 zq0,Jf y g zq0 zq0]
   simp only[Ae,List.length_nil,List.nil_append,List.append_nil,List.length_cons,List.length_append,Nat.zero_add,Nat.reduceAdd,Nat.reduceLeDiff,decide_true,Ba,d2,d4]
   exact tail (ch) (Bm s) ([]) ([Hn k s.2.2.1 (D3 0 f)]) p' b y g zz zq0 zq0 zq0 zq0 zq0 (by simp only[Bu,Ig,List.length_nil,List.length_cons];simp only[Aq]at*;omega) (by simp only[Bu,Gb,Hn,Gy,Ls,List.length_nil,List.length_cons];omega)
 |false=>
 simp only[Ao]
 cases h7:(f.1==(7:Int))with
 |false=>
  simp only[Ao]
  obtain⟨p',b,of1,of2,OF1,OF2,OF3⟩:=Iy (Bm s) n a d zq0
  obtain⟨y,g,zz,g1,g2,e',GS1,GS2,GS3,_⟩:=Gt (ch) 5 d.1 zq0
  have hyk:=Er y
  rw[show Dh _ n a d=some (p',(b,()))from of1,show Eo _ n a d=some (p',(b,()))from of2,show Cn _ (5,()) d=some (y,g,(zz,()))from g1,show Dq _ (5,()) d=some (y,g,(zz,()))from g2]
  simp only[Ae]
  rw[Ii y g zq0 zq0,Jf y g zq0 zq0]
  simp only[Ae,List.length_nil,List.nil_append,List.append_nil,List.length_cons,List.length_append,Nat.zero_add,Nat.reduceAdd,Nat.reduceLeDiff,decide_true,Ba,d2,d4]
  exact tail (ch) (Bm s) ([]) ([Hn k s.2.2.1 (D3 0 f)]) p' b y g zz zq0 zq0 zq0 zq0 zq0 (by simp only[Bu,Ig,List.length_nil,List.length_cons];simp only[Aq]at*;omega) (by simp only[Bu,Gb,Hn,Gy,Ls,List.length_nil,List.length_cons];omega)
 |true=>
 simp only[A9]
 obtain⟨X,zr,r1,r2,R1,R2,R3⟩:=Avq ch (f.2.2.2.2.2.2.2.1,()) (p,()) zq0
 have hXk:=Er X
 have d5:decide (X.2.2.2.1.length<=4294967296)=true:=Al zq0
 unfold Vg Vb
 simp only[Af,Ag,Aa,Aj]
 rw[show P3 _ (f.2.2.2.2.2.2.2.1,()) (p,())=some (X,(zr,()))from r1,show Vh _ (f.2.2.2.2.2.2.2.1,()) (p,())=some (X,(zr,()))from r2]
 simp only[Ae,bne]
 cases hzr:(zr==(0:Int))with
 |false=>
  simp only[Bool.not_false,A9,Ao,Ae]
  obtain⟨p',b,of1,of2,OF1,OF2,OF3⟩:=Iy (Bm s) n a d zq0
  obtain⟨y,g,zz,g1,g2,e',GS1,GS2,GS3,_⟩:=Gt (ch) 5 d.1 zq0
  have hyk:=Er y
  rw[show Dh _ n a d=some (p',(b,()))from of1,show Eo _ n a d=some (p',(b,()))from of2,show Cn _ (5,()) d=some (y,g,(zz,()))from g1,show Dq _ (5,()) d=some (y,g,(zz,()))from g2]
  simp only[Ae]
  rw[Ii y g zq0 zq0,Jf y g zq0 zq0]
  simp only[Ae,List.length_nil,List.nil_append,List.append_nil,List.length_cons,List.length_append,Nat.zero_add,Nat.reduceAdd,Nat.reduceLeDiff,decide_true,Ba,d2,d4]
  exact tail (ch) (Bm s) ([]) ([Hn k s.2.2.1 (D3 0 f)]) p' b y g zz zq0 zq0 zq0 zq0 zq0 (by simp only[Bu,Ig,List.length_nil,List.length_cons];simp only[Aq]at*;omega) (by simp only[Bu,Gb,Hn,Gy,Ls,List.length_nil,List.length_cons];omega)
 |true=>
 simp only[Bool.not_true,A9,Ao]
 obtain⟨y',g',za,k1,k2,K1,K2,_⟩:=A30 X zq0
 have hyk':=Er y'
 have htl2:=Uy y'.1 g'
 rw[k1,k2]
 simp only[Ae]
 rw[Ii y' g' zq0 zq0,Jf y' g' zq0 zq0]
 cases hN:(X.2.2.1==ch.2.2.1)with
 |false=>
  simp (disch:=first|omega|(dsimp only;omega)) only[Bool.not_false,A9,Ao,Ch,Ae]
  cases hza:(za==(0:Int))with
  |true=>
   simp only[Bool.not_true,A9,Ao,Ae,List.length_nil,List.nil_append,List.length_cons,List.length_append,Nat.zero_add,Nat.reduceAdd,Nat.reduceLeDiff,decide_true,Ba,d2,d5]
   obtain⟨p',b,of1,of2,OF1,OF2,OF3⟩:=Iy (Bm s) n a d zq0
   obtain⟨y,g,zz,g1,g2,e',GS1,GS2,GS3,_⟩:=Gt (y') 5 d.1 zq0
   have hyk:=Er y
   rw[show Dh _ n a d=some (p',(b,()))from of1,show Eo _ n a d=some (p',(b,()))from of2,show Cn _ (5,()) d=some (y,g,(zz,()))from g1,show Dq _ (5,()) d=some (y,g,(zz,()))from g2]
   simp only[Ae]
   rw[Ii y g zq0 zq0,Jf y g zq0 zq0]
   simp only[Ae,List.length_nil,List.nil_append,List.append_nil,List.length_cons,List.length_append,Nat.zero_add,Nat.reduceAdd,Nat.reduceLeDiff,decide_true,Ba,d2,d4]
   exact tail (y') (Bm s) ([(s.2.2.2.2.2.2.2.2.2.2.2.2.2.2.2.2.2.2.1,s.2.2.2.2.2.2.2.2.2.2.2.2.2.2.2.2.2.2.2.1,g'.1,g'.2.1,g'.2.2.1,g'.2.2.2.1,g'.2.2.2.2.1,g'.2.2.2.2.2.1,g'.2.2.2.2.2.2.1,g'.2.2.2.2.2.2.2.1,g'.2.2.2.2.2.2.2.2.1,g'.2.2.2.2.2.2.2.2.2.1,g'.2.2.2.2.2.2.2.2.2.2.1,())]) ([Hn k s.2.2.1 (D3 0 f),((10:Int),(0:Int),(1:Int),([]:List YB),s.2.2.1,X.2.2.1,(0:Int),([]:List YB),X.2.2.2.1,(0:Int),(0:Int),(0:Int),()),Gy y' g']) p' b y g zz zq0 zq0 zq0 zq0 zq0 (by simp only[Bu,Ig,List.length_nil,List.length_cons];simp only[Aq]at*;omega) (by simp only[Bu,Gb,Hn,Gy,Ls,List.length_nil,List.length_cons];omega)
  |false=>
   simp only[Bool.not_false,A9,Ao,Ae,List.length_nil,List.nil_append,List.length_cons,List.length_append,Nat.zero_add,Nat.reduceAdd,Nat.reduceLeDiff,decide_true,Ba,d2,d5]
   obtain⟨p',b,of1,of2,OF1,OF2,OF3⟩:=Iy (Bm s) n a d zq0
   obtain⟨y,g,zz,g1,g2,e',GS1,GS2,GS3,_⟩:=Gt (X) 5 d.1 zq0
   have hyk:=Er y
   rw[show Dh _ n a d=some (p',(b,()))from of1,show Eo _ n a d=some (p',(b,()))from of2,show Cn _ (5,()) d=some (y,g,(zz,()))from g1,show Dq _ (5,()) d=some (y,g,(zz,()))from g2]
   simp only[Ae]
   rw[Ii y g zq0 zq0,Jf y g zq0 zq0]
   simp only[Ae,List.length_nil,List.nil_append,List.append_nil,List.length_cons,List.length_append,Nat.zero_add,Nat.reduceAdd,Nat.reduceLeDiff,decide_true,Ba,d2,d4]
   exact tail (X) (Bm s) ([]) ([Hn k s.2.2.1 (D3 0 f),((10:Int),(0:Int),(1:Int),([]:List YB),s.2.2.1,X.2.2.1,(0:Int),([]:List YB),X.2.2.2.1,(0:Int),(0:Int),(0:Int),())]) p' b y g zz zq0 zq0 zq0 zq0 zq0 (by simp only[Bu,Ig,List.length_nil,List.length_cons];simp only[Aq]at*;omega) (by simp only[Bu,Gb,Hn,Gy,Ls,List.length_nil,List.length_cons];omega)
 |true=>
  simp only[Bool.not_true,A9,Ao,Ae]
  cases hza:(za==(0:Int))with
  |true=>
   simp only[Bool.not_true,A9,Ao,Ae,List.length_nil,List.nil_append,List.length_cons,List.length_append,Nat.zero_add,Nat.reduceAdd,Nat.reduceLeDiff,decide_true,Ba,d2,d5]
   obtain⟨p',b,of1,of2,OF1,OF2,OF3⟩:=Iy (Bm s) n a d zq0
   obtain⟨y,g,zz,g1,g2,e',GS1,GS2,GS3,_⟩:=Gt (y') 5 d.1 zq0
   have hyk:=Er y
   rw[show Dh _ n a d=some (p',(b,()))from of1,show Eo _ n a d=some (p',(b,()))from of2,show Cn _ (5,()) d=some (y,g,(zz,()))from g1,show Dq _ (5,()) d=some (y,g,(zz,()))from g2]
   simp only[Ae]
   rw[Ii y g zq0 zq0,Jf y g zq0 zq0]
   simp only[Ae,List.length_nil,List.nil_append,List.append_nil,List.length_cons,List.length_append,Nat.zero_add,Nat.reduceAdd,Nat.reduceLeDiff,decide_true,Ba,d2,d4]
   exact tail (y') (Bm s) ([(s.2.2.2.2.2.2.2.2.2.2.2.2.2.2.2.2.2.2.1,s.2.2.2.2.2.2.2.2.2.2.2.2.2.2.2.2.2.2.2.1,g'.1,g'.2.1,g'.2.2.1,g'.2.2.2.1,g'.2.2.2.2.1,g'.2.2.2.2.2.1,g'.2.2.2.2.2.2.1,g'.2.2.2.2.2.2.2.1,g'.2.2.2.2.2.2.2.2.1,g'.2.2.2.2.2.2.2.2.2.1,g'.2.2.2.2.2.2.2.2.2.2.1,())]) ([Hn k s.2.2.1 (D3 0 f),Gy y' g']) p' b y g zz zq0 zq0 zq0 zq0 zq0 (by simp only[Bu,Ig,List.length_nil,List.length_cons];simp only[Aq]at*;omega) (by simp only[Bu,Gb,Hn,Gy,Ls,List.length_nil,List.length_cons];omega)
  |false=>
   simp only[Bool.not_false,A9,Ao,Ae,List.length_nil,List.nil_append,List.length_cons,List.length_append,Nat.zero_add,Nat.reduceAdd,Nat.reduceLeDiff,decide_true,Ba,d2,d5]
   obtain⟨p',b,of1,of2,OF1,OF2,OF3⟩:=Iy (Bm s) n a d zq0
   obtain⟨y,g,zz,g1,g2,e',GS1,GS2,GS3,_⟩:=Gt (X) 5 d.1 zq0
   have hyk:=Er y
   rw[show Dh _ n a d=some (p',(b,()))from of1,show Eo _ n a d=some (p',(b,()))from of2,show Cn _ (5,()) d=some (y,g,(zz,()))from g1,show Dq _ (5,()) d=some (y,g,(zz,()))from g2]
   simp only[Ae]
   rw[Ii y g zq0 zq0,Jf y g zq0 zq0]
   simp only[Ae,List.length_nil,List.nil_append,List.append_nil,List.length_cons,List.length_append,Nat.zero_add,Nat.reduceAdd,Nat.reduceLeDiff,decide_true,Ba,d2,d4]
   exact tail (X) (Bm s) ([]) ([Hn k s.2.2.1 (D3 0 f)]) p' b y g zz zq0 zq0 zq0 zq0 zq0 (by simp only[Bu,Ig,List.length_nil,List.length_cons];simp only[Aq]at*;omega) (by simp only[Bu,Gb,Hn,Gy,Ls,List.length_nil,List.length_cons];omega)
end
end Go.Proofs.YtnbbbaplphcebaaGreat
