/-
  That the program and the reference answer alike, in plain terms, and that the laws answer true.
-/
import Derived.Test.YtnbbbaplphcebaaGreatG1
namespace Go.Proofs.YtnbbbaplphcebaaGreat
open Go.RowKit
set_option linter.unusedVariables false
set_option linter.unusedSimpArgs false
set_option maxRecDepth 100000
set_option maxHeartbeats 8000000
noncomputable section
def Bj0 (b:Int):Int:=IntKind.i64.wrap ((1:Int)*2^(min b.toNat IntKind.i64.bits))
def A6b (w b:Int):Int:=IntKind.i64.wrap ((BitVec.ofInt IntKind.i64.bits w &&& ~~~ BitVec.ofInt IntKind.i64.bits (Bj0 b)).toNat:Nat)
def Ag4 (w b:Int):Int:=IntKind.i64.wrap ((BitVec.ofInt IntKind.i64.bits w ||| BitVec.ofInt IntKind.i64.bits (Bj0 b)).toNat:Nat)
theorem Bhn {b:Nat} (h:b<32):Bj0 (b:Int)=((2^b:Nat):Int):=by
 unfold Bj0
 rw[show min (Int.toNat (b:Int)) IntKind.i64.bits=b by rw[Int.toNat_natCast];show min b 64=b;omega]
 have h1:(2:Nat)^b<=2^31:=Nat.pow_le_pow_right zq7 zq0
 have h2:((1:Int)*2^b)=((2^b:Nat):Int):=by push_cast;omega
 rw[h2]
 generalize (2:Nat)^b=N at h1 ⊢
 exact w64 zq0
theorem Oq (n:Nat):BitVec.ofInt IntKind.i64.bits (n:Int)=BitVec.ofNat 64 n:=by
 show BitVec.ofInt 64 (n:Int)=_
 simp
theorem Bqw {w b:Nat} (hw:w<4294967296) (hb:b<32): ∃r:Nat,A6b (w:Int) (b:Int)=(r:Int)/\r<4294967296/\ ∀j,r.testBit j=(w.testBit j && !decide (j=b)):=by
 unfold A6b
 rw[Bhn hb,Oq,Oq]
 refine⟨(BitVec.ofNat 64 w &&& ~~~ BitVec.ofNat 64 (2^b)).toNat,?_,?_,fun j=>?_⟩
 .have h1:(BitVec.ofNat 64 w &&& ~~~ BitVec.ofNat 64 (2^b)).toNat<=w:=by
   rw[BitVec.toNat_and]
   refine Nat.le_trans Nat.and_le_left ?_
   rw[BitVec.toNat_ofNat];exact Nat.mod_le _ _
  show IntKind.i64.wrap (((BitVec.ofNat 64 w &&& ~~~ BitVec.ofNat 64 (2^b)).toNat:Nat):Int)=_
  exact w64 zq0
 .have h1:(BitVec.ofNat 64 w &&& ~~~ BitVec.ofNat 64 (2^b)).toNat<=w:=by
   rw[BitVec.toNat_and]
   refine Nat.le_trans Nat.and_le_left ?_
   rw[BitVec.toNat_ofNat];exact Nat.mod_le _ _
  omega
 .rw[show((BitVec.ofNat 64 w &&& ~~~ BitVec.ofNat 64 (2^b)).toNat).testBit j=(BitVec.ofNat 64 w &&& ~~~ BitVec.ofNat 64 (2^b)).getLsbD j from rfl]
  rw[BitVec.getLsbD_and,BitVec.getLsbD_not,BitVec.getLsbD_ofNat,BitVec.getLsbD_ofNat,Nat.testBit_two_pow]
  by_cases hj:j<64
  .rw[show decide (j<64)=true from decide_eq_true hj]
   simp only[Bool.true_and]
   congr 2
   simp[eq_comm]
  .have:w.testBit j=false:=Nat.testBit_lt_two_pow (Nat.lt_of_lt_of_le hw (Nat.le_trans (by decide:4294967296<=2^64) (Nat.pow_le_pow_right zq7 zq0)))
   rw[this];simp
theorem A6c {w b:Nat} (hw:w<4294967296) (hb:b<32): ∃r:Nat,Ag4 (w:Int) (b:Int)=(r:Int)/\r<4294967296/\ ∀j,r.testBit j=(w.testBit j || decide (j=b)):=by
 unfold Ag4
 rw[Bhn hb,Oq,Oq]
 have hlt:(BitVec.ofNat 64 w ||| BitVec.ofNat 64 (2^b)).toNat<2^32:=by
  rw[BitVec.toNat_or]
  refine Nat.or_lt_two_pow ?_ ?_
  .rw[BitVec.toNat_ofNat];exact Nat.lt_of_le_of_lt (Nat.mod_le _ _) hw
  .rw[BitVec.toNat_ofNat];exact Nat.lt_of_le_of_lt (Nat.mod_le _ _) (Nat.pow_lt_pow_right zq7 hb)
 refine⟨(BitVec.ofNat 64 w ||| BitVec.ofNat 64 (2^b)).toNat,?_,hlt,fun j=>?_⟩
 .show IntKind.i64.wrap (((BitVec.ofNat 64 w ||| BitVec.ofNat 64 (2^b)).toNat:Nat):Int)=_
  exact w64 zq0
 .rw[show((BitVec.ofNat 64 w ||| BitVec.ofNat 64 (2^b)).toNat).testBit j=(BitVec.ofNat 64 w ||| BitVec.ofNat 64 (2^b)).getLsbD j from rfl]
  rw[BitVec.getLsbD_or,BitVec.getLsbD_ofNat,BitVec.getLsbD_ofNat,Nat.testBit_two_pow]
  by_cases hj:j<64
  .rw[show decide (j<64)=true from decide_eq_true hj]
   simp only[Bool.true_and]
   congr 1
   simp[eq_comm]
  .have h1:w.testBit j=false:=Nat.testBit_lt_two_pow (Nat.lt_of_lt_of_le hw (Nat.le_trans (by decide:4294967296<=2^64) (Nat.pow_le_pow_right zq7 zq0)))
   have h2:decide (j=b)=false:=decide_eq_false zq0
   rw[h1,h2];simp[hj]
def It (l:List YI):Prop:=l.length=32/\ ∀(q:Nat) (x:YI),l[q]? =some x->0<=x.1/\x.1<4294967296
def Aak (l:List YI) (r:Nat):Bool:=((l[r/32]?.getD (0,())).1.toNat).testBit (r%32)
theorem Bms {l m:List YI} (h:It l) (k:It m) (hb: ∀r,r<1024->Aak l r=Aak m r):l=m:=by
 apply List.ext_getElem?
 intro q
 by_cases hq:q<32
 .have hql:q<l.length:=by rw[h.1];exact hq
  have hqm:q<m.length:=by rw[k.1];exact hq
  have hx:=List.getElem?_eq_getElem hql
  have hy:=List.getElem?_eq_getElem hqm
  have h1:=h.2 q _ hx
  have h2:=k.2 q _ hy
  have he:l[q].1.toNat=m[q].1.toNat:=by
   apply Nat.eq_of_testBit_eq
   intro j
   by_cases hj:j<32
   .have:=hb (32*q+j) zq0
    unfold Aak at this
    rw[show(32*q+j)/32=q by omega,show(32*q+j)%32=j by omega,hx,hy]at this
    exact this
   .have e: ∀n:Nat,n<4294967296->n.testBit j=false:=fun n hn=>Nat.testBit_lt_two_pow (Nat.lt_of_lt_of_le hn (Nat.le_trans (by decide:4294967296<=2^32) (Nat.pow_le_pow_right zq7 zq0)))
    rw[e _ zq0,e _ zq0]
  rw[hx,hy]
  have he2:l[q].1=m[q].1:=by omega
  have:l[q]=m[q]:=Prod.ext he2 rfl
  rw[this]
 .rw[List.getElem?_eq_none (by rw[h.1];omega),List.getElem?_eq_none (by rw[k.1];omega)]
def Pc (f:Int->Int->Int) (l:List YI) (n:Int):List YI:=l.set ((n%1024)/32).toNat (f (l[((n%1024)/32).toNat]?.getD (0,())).1 (n%32),())
theorem Awq {f:Int->Int->Int} {g:Bool->Bool->Bool} (hf: ∀ {w b:Nat},w<4294967296->b<32-> ∃r:Nat,f (w:Int) (b:Int)=(r:Int)/\r<4294967296/\ ∀j,r.testBit j=g (w.testBit j) (decide (j=b))) (hg: ∀x,g x false=x)
  {l:List YI} (h:It l) {n:Int} (h0:0<=n):It (Pc f l n)/\ ∀r,r<1024->Aak (Pc f l n) r=g (Aak l r) (decide ((r:Int)=n%1024)):=by
 obtain⟨m,rfl⟩:=Int.eq_ofNat_of_zero_le h0
 have hq:((m:Int)%1024/32).toNat=m%1024/32:=by omega
 have hlt:m%1024/32<l.length:=by rw[h.1];omega
 have hx:=List.getElem?_eq_getElem hlt
 have hw:=h.2 _ _ hx
 obtain⟨r,r1,r2,r3⟩:=hf (w:=l[m%1024/32].1.toNat) (b:=m%32) zq0 zq0
 have hval:f (l[m%1024/32]?.getD (0,())).1 ((m:Int)%32)=(r:Int):=by
  rw[hx]
  show f l[m%1024/32].1 ((m:Int)%32)=_
  rw[<-r1]
  congr 1<;>omega
 have ht:Pc f l (m:Int)=l.set (m%1024/32) ((r:Int),()):=by
  unfold Pc
  rw[hq,hval]
 rw[ht]
 refine⟨⟨by rw[List.length_set];exact h.1,fun q x hx'=>?_⟩,fun k hk=>?_⟩
 .rw[List.getElem?_set]at hx'
  split at hx'
  .simp only[Option.some.injEq]at hx'
   subst hx'
   exact⟨by simp,by simp;omega⟩
  .exact h.2 q x hx'
 .unfold Aak
  rw[List.getElem?_set]
  by_cases hk2:m%1024/32=k/32
  .rw[if_pos hk2,if_pos hlt]
   show r.testBit (k%32)=_
   rw[r3,hk2.symm,hx]
   show g _ _=g _ _
   congr 1
   apply decide_eq_decide.2
   omega
  .rw[if_neg hk2]
   rw[show decide ((k:Int)=(m:Int)%1024)=false from decide_eq_false zq0,hg]
def Nk (l:List YI) (s:Int):Nat->List YI
 |0=>l
 |m+1=>Pc A6b (Nk l s m) (s+m)
theorem Wb {l:List YI} (h:It l) {s:Int} (h0:0<=s): ∀m:Nat,It (Nk l s m)/\ ∀r,r<1024->Aak (Nk l s m) r=(Aak l r && decide (∀k:Nat,k<m->(r:Int)≠(s+k)%1024))
 |0=>⟨h,fun r _=>by simp[Nk]⟩
 |m+1=>by
  obtain⟨h1,h2⟩:=Wb h h0 m
  obtain⟨h3,h4⟩:=Awq (f:=A6b) (g:=fun x y=>x && !y) (fun hw hb=>Bqw hw hb) (fun x=>by simp) h1 (n:=s+m) zq0
  refine⟨h3,fun r hr=>?_⟩
  show Aak (Pc A6b (Nk l s m) (s+m)) r=_
  rw[h4 r hr,h2 r hr,Bool.and_assoc]
  congr 1
  rw[<-decide_not,<-Bool.decide_and]
  apply decide_eq_decide.2
  constructor
  .rintro⟨a,b⟩ k hk
   rcases Nat.lt_or_ge k m with h|h
   .exact a k h
   .rw[show k=m by omega];exact b
  .intro a
   exact⟨fun k hk=>a k zq0,a m zq0⟩
theorem Br5 {l:List YI} (h:It l) {s1 s2 n:Int} {m1 m2:Nat} (h1:0<=s1) (h2:0<=s2) (hn:0<=n)
  (he: ∀r:Nat,r<1024->(r:Int)≠n%1024->((∀k:Nat,k<m1->(r:Int)≠(s1+k)%1024)↔ ∀k:Nat,k<m2->(r:Int)≠(s2+k)%1024)):
  Pc Ag4 (Nk l s1 m1) n=Pc Ag4 (Nk l s2 m2) n:=by
 obtain⟨a1,a2⟩:=Wb h h1 m1
 obtain⟨b1,b2⟩:=Wb h h2 m2
 obtain⟨a3,a4⟩:=Awq (f:=Ag4) (g:=fun x y=>x || y) (fun hw hb=>A6c hw hb) (fun x=>by simp) a1 hn
 obtain⟨b3,b4⟩:=Awq (f:=Ag4) (g:=fun x y=>x || y) (fun hw hb=>A6c hw hb) (fun x=>by simp) b1 hn
 refine Bms a3 b3 fun r hr=>?_
 rw[a4 r hr,b4 r hr,a2 r hr,b2 r hr]
 by_cases hrn:(r:Int)=n%1024
 .rw[show decide ((r:Int)=n%1024)=true from decide_eq_true hrn];simp
 .rw[show decide ((r:Int)=n%1024)=false from decide_eq_false hrn]
  simp only[Bool.or_false]
  congr 1
  exact decide_eq_decide.2 (he r hr hrn)
theorem Aqo {l:List YI} (h:It l) {n:Int} (h0:0<=n):idx l (n%1024/32)=some (l[((n%1024)/32).toNat]?.getD (0,())):=by
 have hlt:((n%1024)/32).toNat<l.length:=by rw[h.1];omega
 unfold idx
 rw[if_pos zq0,List.getElem?_eq_getElem hlt];rfl
theorem Acg {w:Db} (h:Ih w=true):It w.2.1/\ -1<=w.1/\w.1<=281474976710655:=by
 unfold Ih at h
 simp only[Bool.and_eq_true]at h
 have h1:=Bj.1 h.1
 refine⟨⟨by have:=h.2.1.2;simp at this;omega,fun q x hx=>?_⟩,h1.1,h1.2⟩
 have:=Aed.1 h.2.1.1 q x hx
 omega
def Jf (w:Db) (n:Int):Bool:=Ih w && (inR n 0 281474976710655 && (decide (n>w.1) || (decide (n≥w.1-1023) && !Adc w n)))
theorem Box (w:Db) (n:YI) (hl:w.2.1.length<=4294967296):Ap3 w n=some (Jf w n.1,()):=by
 unfold Ap3 Apd Jf
 simp only[Af,Ag,Aa]
 rw[Bhe w hl,Cj]
 simp only[Ae]
 cases ho:Ih w with
 |false=>rfl
 |true=>
  obtain⟨h1,h2,h3⟩:=Acg ho
  cases hn:inR n.1 0 281474976710655 with
  |false=>rfl
  |true=>
   have hn':=Bj.1 hn
   simp only[Bool.not_true,An]
   rw[w64 (n:=w.1-1024) zq0,w64 zq0,A0t w n h1.1 hn'.1,show w.1-1024+1=w.1-1023 by omega]
   cases decide (n.1>w.1)<;>cases decide (n.1≥w.1-1023)<;>rfl
theorem Bc7 (w:Db) (n:YI) (hl:w.2.1.length<=4294967296):Ad0 w n=some (Jf w n.1,()):=by
 unfold Ad0 Anv Jf Ayp Ajj
 simp only[Af,Ag,Aa]
 rw[Bhf w,Cq]
 simp only[Ae]
 cases ho:Ih w with
 |false=>rfl
 |true=>
  obtain⟨h1,h2,h3⟩:=Acg ho
  cases hn:inR n.1 0 281474976710655 with
  |false=>rfl
  |true=>
   have hn':=Bj.1 hn
   simp only[Bool.not_true,An]
   rw[w64 (n:=w.1-1024) zq0,w64 zq0,A55 w n h1.1 hn'.1,show w.1-1024+1=w.1-1023 by omega]
   simp only[Ae]
   by_cases hg:n.1>w.1
   .rw[Al hg];rfl
   .rw[Bq hg]
    by_cases ht:w.1<1024
    .rw[Al ht,A9,Ae]
     simp only
     rw[Al (p:=n.1≥0) zq0,Al (p:=n.1≥w.1-1023) zq0];rfl
    .rw[Bq ht]
     simp only[An,Ae]
     cases decide (n.1≥w.1-1023)<;>rfl
theorem Bmt {l:List YI} (h:It l) (n s t:Int) (l0:List YI) (t':Int) (m:Nat) (h0:0<=s) (hm:s+m=n\/(m=0/\n<=s)) (hn:n<=281474976710656) (hs:s<=281474976710656):
  Ax N3 (n,s,t,l0,(0:Int),([]:List YI),t',l,())=some (n,t,l0,(0:Int),([]:List YI),t',Nk l s m,()):=by
 have hl:=C0 (B:=N3) m (fun i=>(n,s+(i:Int),t,l0,(0:Int),([]:List YI),t',Nk l s i,())) (n,t,l0,(0:Int),([]:List YI),t',Nk l s m,())
  (fun i hi=>by
   have hw:=(Wb h h0 i).1
   have hx:=Aqo hw (n:=s+(i:Int)) zq0
   unfold N3
   simp only[Af,Ag,Aa,Aj]
   rw[Al (p:=s+(i:Int)<n) zq0,A9,Al (p:=(0:Int)<=s+(i:Int)) zq0,Al (p:=(0:Int)<=(s+(i:Int))%1024) zq0,Al (p:=(0:Int)<=(s+(i:Int))%32) zq0,hx,w64 (n:=s+(i:Int)+1) zq0]
   simp only[Ae,Ba]
   rw[show s+((i+1:Nat):Int)=s+(i:Int)+1 by push_cast;omega]
   rfl)
  (by
   unfold N3
   simp only[Af,Ag,Aa,Aj]
   rw[Bq zq0,An])
 rw[show s=s+((0:Nat):Int) by simp]at hl
 simpa [Nk] using hl
theorem Bmu {l:List YI} (h:It l) (n s t:Int) (l0:List YI) (t':Int) (m:Nat) (h0:0<=s) (hm:(s+m=n+1/\m<=1024)\/(m=1024/\s+1024<=n+1)\/(m=0/\n<s)) (hn:n<=281474976710656) (hs:s<=281474976710656):
  Ax Nr (n,(0:Int),s,t,l0,(0:Int),([]:List YI),t',l,())=some (n,t,l0,(0:Int),([]:List YI),t',Nk l s m,()):=by
 have hl:=C0 (B:=Nr) m (fun i=>(n,(i:Int),s+(i:Int),t,l0,(0:Int),([]:List YI),t',Nk l s i,())) (n,t,l0,(0:Int),([]:List YI),t',Nk l s m,())
  (fun i hi=>by
   have hw:=(Wb h h0 i).1
   have hx:=Aqo hw (n:=s+(i:Int)) zq0
   unfold Nr
   simp only[Af,Ag,Aa,Aj]
   rw[Al (p:=s+(i:Int)<=n) zq0,A9,Al (p:=(i:Int)<1024) zq0,A9,Al (p:=(0:Int)<=s+(i:Int)) zq0,Al (p:=(0:Int)<=(s+(i:Int))%1024) zq0,show(s+(i:Int))%1024%32=(s+(i:Int))%32 by omega,Al (p:=(0:Int)<=(s+(i:Int))%32) zq0,hx,w64 (n:=s+(i:Int)+1) zq0,w64 (n:=(i:Int)+1) zq0]
   simp only[Ae,Ba]
   rw[show s+((i+1:Nat):Int)=s+(i:Int)+1 by push_cast;omega]
   rfl)
  (by
   unfold Nr
   simp only[Af,Ag,Aa,Aj]
   by_cases hle:s+(m:Int)<=n
   .rw[Al hle,A9,Bq (p:=(m:Int)<1024) zq0,An]
   .rw[Bq hle,An])
 rw[show s=s+((0:Nat):Int) by simp]at hl
 simpa [Nk] using hl
def Bc8 (t n:Int):Nat:=if n<=t then 0 else if n<=t+1024 then(n-t-1).toNat else 1023
def Akz (t n:Int):Int:=if t+1<n-1023 then n-1023 else t+1
def Ak0 (t n:Int):Nat:=if n<=t then 0 else if n<=t+1024 then(n-t).toNat else 1024
def J5 (w:Db) (n:Int):Db:=(if w.1<n then n else w.1,Pc Ag4 (Nk w.2.1 (w.1+1) (Ak0 w.1 n)) n,())
theorem Boy {l:List YI} (h:It l) {t n:Int} (ht: -1<=t) (hn:0<=n):Pc Ag4 (Nk l (Akz t n) (Bc8 t n)) n=Pc Ag4 (Nk l (t+1) (Ak0 t n)) n:=by
 refine Br5 h (by unfold Akz;split<;>omega) zq0 hn fun r hr hne=>?_
 unfold Bc8 Ak0 Akz
 by_cases h1:n<=t
 .rw[if_pos h1,if_pos h1]
  exact⟨fun _ k hk=>by omega,fun _ k hk=>by omega⟩
 .rw[if_neg h1,if_neg h1]
  by_cases h2:n<=t+1024
  .rw[if_pos h2,if_pos h2,if_neg zq0]
   constructor
   .intro hk k hk2
    rcases Nat.lt_or_ge k (n-t-1).toNat with hh|hh
    .exact hk k hh
    .have:t+1+(k:Int)=n:=by omega
     rw[this];exact hne
   .intro hk k hk2
    exact hk k zq0
  .rw[if_neg h2,if_neg h2,if_pos zq0]
   constructor
   .intro hk
    exact(hk (((r:Int)-(n-1023))%1024).toNat zq0 zq0).elim
   .intro hk
    exact(hk (((r:Int)-(t+1))%1024).toNat zq0 zq0).elim
theorem Bc9 {f:Int->Int->Int} {l:List YI} {n:Int}:(Pc f l n).length=l.length:=by unfold Pc;simp
theorem Bda {l:List YI} {s:Int}: ∀m,(Nk l s m).length=l.length
 |0=>rfl
 |m+1=>by show(Pc A6b (Nk l s m) (s+m)).length=_;rw[Bc9,Bda m]
theorem Ak1 (w:Db) (n:Int):Ga (J5 w n)=Ga w:=by
 simp only[Ga,J5,Bc9,Bda]
theorem Boz (w:Db) (n:YI) (hl:w.2.1.length<=4294967296):Ap4 w n=some (bif Jf w n.1 then(J5 w n.1,(true,()))else(w,(false,()))):=by
 unfold Ap4 Ape
 simp only[Af,Ag,Aa,Aj]
 rw[Avc w (by simp only[Ga];omega),Box w n hl]
 simp only[Ae]
 cases hm:Jf w n.1 with
 |false=>rfl
 |true=>
  have hm':=hm
  unfold Jf at hm'
  simp only[Bool.and_eq_true]at hm'
  obtain⟨h1,h2,h3⟩:=Acg hm'.1
  have hn:=Bj.1 hm'.2.1
  simp only[Bool.not_true,An,cond_true]
  rw[w64 (n:=w.1+1) zq0,w64 (n:=n.1-1024) zq0,w64 (n:=n.1-1024+1) zq0,show n.1-1024+1=n.1-1023 by omega]
  rw[show(if w.1+1<n.1-1023 then n.1-1023 else w.1+1)=Akz w.1 n.1 from rfl]
  rw[Bmt h1 n.1 (Akz w.1 n.1) w.1 w.2.1 w.1 (Bc8 w.1 n.1) (by unfold Akz;split<;>omega) (by unfold Akz Bc8;split<;>(try split)<;>(try split)<;>omega) zq0 (by unfold Akz;split<;>omega)]
  have hw:=(Wb h1 (s:=Akz w.1 n.1) (by unfold Akz;split<;>omega) (Bc8 w.1 n.1)).1
  simp only[Ae]
  rw[Al (p:=(0:Int)<=n.1) zq0,Al (p:=(0:Int)<=n.1%1024) zq0,Al (p:=(0:Int)<=n.1%32) zq0,Aqo hw hn.1]
  simp only[Ae,Ba]
  unfold J5
  rw[<-Boy h1 h2 hn.1]
  rfl
theorem A01 (w:Db) (n:YI) (hl:w.2.1.length<=4294967296):Xf w n=some (bif Jf w n.1 then(J5 w n.1,(true,()))else(w,(false,()))):=by
 unfold Xf Anw
 simp only[Af,Ag,Aa,Aj]
 rw[Bcv w (by simp only[Ga];omega),Bc7 w n hl]
 simp only[Ae]
 cases hm:Jf w n.1 with
 |false=>rfl
 |true=>
  have hm':=hm
  unfold Jf at hm'
  simp only[Bool.and_eq_true]at hm'
  obtain⟨h1,h2,h3⟩:=Acg hm'.1
  have hn:=Bj.1 hm'.2.1
  simp only[Bool.not_true,An,cond_true]
  rw[w64 (n:=w.1+1) zq0]
  rw[Bmu h1 n.1 (w.1+1) w.1 w.2.1 w.1 (Ak0 w.1 n.1) zq0 (by unfold Ak0;split<;>(try split)<;>omega) zq0 zq0]
  have hw:=(Wb h1 (s:=w.1+1) zq0 (Ak0 w.1 n.1)).1
  simp only[Ae]
  rw[Al (p:=(0:Int)<=n.1) zq0,Al (p:=(0:Int)<=n.1%1024) zq0,show n.1%1024%32=n.1%32 by omega,Al (p:=(0:Int)<=n.1%32) zq0,Aqo hw hn.1]
  simp only[Ae,Ba]
  unfold J5
  by_cases hg:n.1>w.1
  .rw[Al hg,A9,if_pos hg];rfl
  .rw[Bq hg,An,if_neg hg];rfl
def orx (d x y:Int):Int:=IntKind.i64.wrap ((BitVec.ofInt (IntKind.i64.bits) d ||| BitVec.ofInt (IntKind.i64.bits) ((IntKind.i64.wrap ((IntKind.u8.wrap ((BitVec.ofInt (IntKind.u8.bits) x ^^^ BitVec.ofInt (IntKind.u8.bits) y).toNat:Nat)))))).toNat:Nat)
theorem Br6 {x y:Nat} (hx:x<=255) (hy:y<=255): ∃u:Nat,IntKind.i64.wrap ((IntKind.u8.wrap ((BitVec.ofInt (IntKind.u8.bits) (x:Int) ^^^ BitVec.ofInt (IntKind.u8.bits) (y:Int)).toNat:Nat)))=(u:Int)/\u<=255/\(u=0↔x=y):=by
 have e1:BitVec.ofInt (IntKind.u8.bits) (x:Int)=BitVec.ofNat 8 x:=by show BitVec.ofInt 8 (x:Int)=_;simp
 have e2:BitVec.ofInt (IntKind.u8.bits) (y:Int)=BitVec.ofNat 8 y:=by show BitVec.ofInt 8 (y:Int)=_;simp
 rw[e1,e2]
 have hlt:(BitVec.ofNat 8 x ^^^ BitVec.ofNat 8 y).toNat<256:=(BitVec.ofNat 8 x ^^^ BitVec.ofNat 8 y).isLt
 refine⟨(BitVec.ofNat 8 x ^^^ BitVec.ofNat 8 y).toNat,?_,by omega,?_⟩
 .show IntKind.i64.wrap (IntKind.u8.wrap (((BitVec.ofNat 8 x ^^^ BitVec.ofNat 8 y).toNat:Nat):Int))=_
  rw[w8 zq0,w64 zq0]
 .constructor
  .intro h
   have h1:BitVec.ofNat 8 x ^^^ BitVec.ofNat 8 y=0#8:=by apply BitVec.eq_of_toNat_eq;simpa using h
   have h2:BitVec.ofNat 8 x=BitVec.ofNat 8 y:=by
    have:=congrArg (· ^^^ BitVec.ofNat 8 y) h1
    simpa [BitVec.xor_assoc] using this
   have h3:=congrArg BitVec.toNat h2
   simp only[BitVec.toNat_ofNat]at h3
   omega
  .intro h;subst h;simp
theorem Br7 {d x y:Int} (hd:0<=d/\d<=255) (hx:0<=x/\x<=255) (hy:0<=y/\y<=255):(0<=orx d x y/\orx d x y<=255)/\(orx d x y=0↔d=0/\x=y):=by
 obtain⟨d',rfl⟩:=Int.eq_ofNat_of_zero_le hd.1
 obtain⟨x',rfl⟩:=Int.eq_ofNat_of_zero_le hx.1
 obtain⟨y',rfl⟩:=Int.eq_ofNat_of_zero_le hy.1
 obtain⟨u,u1,u2,u3⟩:=Br6 (x:=x') (y:=y') zq0 zq0
 have e1:BitVec.ofInt (IntKind.i64.bits) (d':Int)=BitVec.ofNat 64 d':=Oq d'
 have e2:BitVec.ofInt (IntKind.i64.bits) (u:Int)=BitVec.ofNat 64 u:=Oq u
 have hv:(BitVec.ofNat 64 d' ||| BitVec.ofNat 64 u).toNat=d' ||| u:=by
  rw[BitVec.toNat_or,BitVec.toNat_ofNat,BitVec.toNat_ofNat,Nat.mod_eq_of_lt zq0,Nat.mod_eq_of_lt zq0]
 have hlt:d' ||| u<2^8:=Nat.or_lt_two_pow zq0 zq0
 have hw:IntKind.i64.wrap (((BitVec.ofNat 64 d' ||| BitVec.ofNat 64 u).toNat:Nat):Int)=((d' ||| u:Nat):Int):=by
  rw[hv];exact w64 zq0
 have hz:(d' ||| u)=0↔d'=0/\u=0:=by
  constructor
  .intro h
   have h1:d'<=d' ||| u:=Nat.left_le_or
   have h2:u<=d' ||| u:=Nat.right_le_or
   omega
  .rintro⟨rfl,rfl⟩;rfl
 have key:orx (d':Int) (x':Int) (y':Int)=((d' ||| u:Nat):Int):=by
  unfold orx
  rw[u1,e1,e2]
  exact hw
 rw[key]
 refine⟨by omega,?_⟩
 rw[show(((d' ||| u:Nat):Int)=0)↔(d' ||| u)=0 by omega,hz,u3]
 omega
theorem Bdb {a b:List YB} {i:Nat} {x y:YB} (hx:a[i]? =some x) (hy:b[i]? =some y):(a.take (i+1)=b.take (i+1))↔(a.take i=b.take i/\x.1=y.1):=by
 have ha:i<a.length:=(List.getElem?_eq_some_iff.1 hx).1
 have hb:i<b.length:=(List.getElem?_eq_some_iff.1 hy).1
 rw[<-E6 hx,<-E6 hy]
 constructor
 .intro h
  have:=List.append_inj h zq1
  refine⟨this.1,?_⟩
  have h2:=this.2
  simp only[List.cons.injEq,and_true]at h2
  rw[h2]
 .rintro⟨h1,h2⟩
  have:x=y:=Prod.ext h2 rfl
  rw[h1,this]
theorem Bho (a b:List YB) (h:a.length<=4294967296): ∃r,Vq (a,()) (b,())=some (r,())/\A0q (a,()) (b,())=some (r,())/\(wfB a->wfB b->(r=0↔a=b)):=by
 unfold Vq A0e A0q Bcf
 simp only[Af,Ag,Aa]
 by_cases hl:a.length=b.length
 .have e:(((a.length:Int) != (b.length:Int)))=false:=by simp[hl]
  simp only[e,An]
  obtain⟨o1,o2,h1,h2,hq⟩:=Vr (B1:=W7) (B2:=Ad9)
   (fun i d1 d2=>∃d:Int,(wfB a->wfB b->(0<=d/\d<=255)/\(d=0↔a.take i=b.take i))/\d1=(a,b,d,(a.length:Int),(i:Int),())/\d2=(a,b,d,(i:Int),()))
   (fun o1 o2=>o1=o2/\(wfB a->wfB b->(o1.1=0↔a=b))) a.length
   (by
    rintro i d1 d2 hi ⟨d,hd,rfl,rfl⟩
    have hib:i<b.length:=by omega
    have hx:=List.getElem?_eq_getElem hi
    have hy:=List.getElem?_eq_getElem hib
    left
    unfold W7 Ad9
    simp only[Af,Ag,Aa,Dj hi,A9,Ca hx,Ca hy,Ae]
    rw[w64 (n:=(i:Int)+1) zq0]
    refine⟨_,_,rfl,rfl,orx d a[i].1 b[i].1,fun wa wb=>?_,rfl,rfl⟩
    obtain⟨hr,hz⟩:=hd wa wb
    obtain⟨k1,k2⟩:=Br7 hr (wa i _ hx) (wb i _ hy)
    exact⟨k1,by rw[k2,hz,Bdb hx hy]⟩)
   (by
    rintro d1 d2 ⟨d,hd,rfl,rfl⟩
    unfold W7 Ad9
    simp only[Af,Ag,Aa,Dk,An]
    refine⟨_,_,rfl,rfl,rfl,fun wa wb=>?_⟩
    rw[(hd wa wb).2,List.take_length,hl,List.take_length])
   (d1:=(a,b,(0:Int),(a.length:Int),(0:Int),())) (d2:=(a,b,(0:Int),(0:Int),())) ⟨0,fun _ _=>⟨by omega,by simp⟩,rfl,rfl⟩
  obtain⟨hq1,hq2⟩:=hq
  subst hq1
  rw[h1,h2]
  exact⟨o1.1,rfl,rfl,hq2⟩
 .have e:(((a.length:Int) != (b.length:Int)))=true:=by simp;omega
  simp only[e,A9]
  exact⟨-1,rfl,rfl,fun _ _=>⟨fun h=>by omega,fun h=>(hl (by rw[h])).elim⟩⟩
theorem A34 (a b:List YB) (h:a.length<=4294967296): ∃r,Qo (a,()) (b,())=some (r,())/\Akr (a,()) (b,())=some (r,()):=by
 unfold Qo Aj4 Akr Ayu
 simp only[Af,Ag,Aa]
 obtain⟨r,r1,r2,_⟩:=Bho a b h
 rw[r1,r2]
 simp only[Ae]
 cases ((a.length:Int)==(16:Int))<;>exact⟨_,rfl,rfl⟩
theorem Bmv (k:List YB) (r:Int) (f:Aq) (h:Ar f<=536870912): ∃p b,Ap5 (k,()) (r,()) f=some ((p,()),(b,()))/\Ap8 (k,()) (r,()) f=some ((p,()),(b,()))/\p.length<=Ar f/\
  (b=true->k.length=32/\p=mix k (Eg r f.2.2.2.1 f.2.2.2.2.2.2.2.1 f.2.2.2.2.2.2.2.2.1) f.2.2.2.2.2.2.2.2.2.1):=by
 have hm:=Avb k (Eg r f.2.2.2.1 f.2.2.2.2.2.2.2.1 f.2.2.2.2.2.2.2.2.1) f.2.2.2.2.2.2.2.2.2.1
 have hn:f.2.2.2.2.2.2.2.2.2.1.length<=Ar f:=by simp only[Ar];omega
 have hn2:f.2.2.2.2.2.2.2.2.2.2.1.length<=Ar f:=by simp only[Ar];omega
 obtain⟨t,t1,t2⟩:=A34 f.2.2.2.2.2.2.2.2.2.2.1 (T4 k (Dy r f)) zq0
 unfold Ap5 Apf Ap8 A3k
 simp only[Af,Ag,Aa]
 rw[Tm _ _ h,Xv _ _ h]
 simp only[Ae]
 rw[Bap,Baq]
 simp only[Ae]
 rw[t1,t2]
 simp only[Ae]
 rw[A0y,Aqi]
 simp only[Ae]
 rw[Bqf,Bqg]
 simp only[Ae]
 cases hk:((k.length:Int) != (32:Int))with
 |true=>exact⟨[],false,rfl,rfl,by simp,fun h=>by cases h⟩
 |false=>
  cases (((Dy r f).length:Int)==(0:Int))with
  |true=>exact⟨[],false,rfl,rfl,by simp,fun h=>by cases h⟩
  |false=>
   cases t with
   |false=>exact⟨[],false,rfl,rfl,by simp,fun h=>by cases h⟩
   |true=>exact⟨_,true,rfl,rfl,by omega,fun _=>⟨by simp at hk;omega,rfl⟩⟩
def EpO (e:YEp) (r:Int) (f:Aq) (e':YEp) (p:List YB) (z:Int):Prop:=
 Cu e'=Cu e/\p.length<=Ar f/\(z≠0->e'=e/\p=[])/\(z=0->Fs e=true/\e'=(e.1,e.2.1,e.2.2.1,(J5 (e.2.2.2.1,e.2.2.2.2.1,()) f.2.2.2.2.2.2.2.2.1).1,(J5 (e.2.2.2.1,e.2.2.2.2.1,()) f.2.2.2.2.2.2.2.2.1).2.1,())/\Jf (e.2.2.2.1,e.2.2.2.2.1,()) f.2.2.2.2.2.2.2.2.1=true/\
  f.2.2.2.2.2.2.2.1=e.1/\p=mix e.2.1 (Eg r f.2.2.2.1 f.2.2.2.2.2.2.2.1 f.2.2.2.2.2.2.2.2.1) f.2.2.2.2.2.2.2.2.2.1)
theorem Air (e:YEp) (r:Int) (f:Aq) (h:Cu e<=4294967296) (h2:Ar f<=536870912):
  ∃e' p z,I2 e (r,()) f=some (e',(p,()),(z,()))/\Mr e (r,()) f=some (e',(p,()),(z,()))/\EpO e r f e' p z:=by
 have hw:=Ak1 (e.2.2.2.1,e.2.2.2.2.1,()) f.2.2.2.2.2.2.2.2.1
 have hn:Cu e=e.2.1.length+e.2.2.2.2.1.length:=rfl
 have nope: ∀z:Int,z≠0-> ∃e' p z',some (e,(([]:List YB),()),(z,()))=some (e',(p,()),(z',()))/\some (e,(([]:List YB),()),(z,()))=some (e',(p,()),(z',()))/\EpO e r f e' p z':=fun z hz=>
  ⟨e,[],z,rfl,rfl,rfl,by simp,fun _=>⟨rfl,rfl⟩,fun h=>(hz h).elim⟩
 obtain⟨p,b,u1,u2,u3,u4⟩:=Bmv e.2.1 r f h2
 unfold I2 Apg Mr A3l
 simp only[Af,Ag,Aa]
 rw[A0z e h,Aqj e h,A3r e zq0,Bcj e,Tm _ _ h2,Xv _ _ h2,Boz _ _ zq2,A01 _ _ zq2,Bc7 _ _ zq2,u1,u2]
 simp only[Ae]
 cases ho:Fs e with
 |false=>exact nope 1 zq7
 |true=>
  simp only[Bool.not_true,An]
  cases (((Dy r f).length:Int)==(0:Int))with
  |true=>exact nope 1 zq7
  |false=>
   simp only[An]
   cases hne:(f.2.2.2.2.2.2.2.1 != e.1)with
   |true=>exact nope 1 zq7
   |false=>
    simp only[An]
    cases hm:Jf (e.2.2.2.1,e.2.2.2.2.1,()) f.2.2.2.2.2.2.2.2.1 with
    |false=>exact nope 3 zq7
    |true=>
     simp only[cond_true,Bool.not_true,An,Ae]
     cases b with
     |false=>exact nope 2 zq7
     |true=>
      simp only[Bool.not_true,An]
      refine⟨_,p,0,rfl,rfl,?_,u3,fun h=>(h rfl).elim,fun _=>⟨ho,rfl,hm,by simpa using hne,(u4 rfl).2⟩⟩
      simp only[Ga]at hw
      simp only[Cu];omega
theorem Aep {l:List YB}:wfB l↔ ∀x∈l,0<=x.1/\x.1<=255:=by
 constructor
 .intro h x hx
  obtain⟨i,hi⟩:=List.getElem?_of_mem hx
  exact h i x hi
 .intro h i x hx
  exact h x (List.mem_of_getElem? hx)
theorem Gs:wfB []:=Aep.2 zq3
theorem Bo0 {a:List YB} {n:Nat} (ha:wfB a):wfB (a.take n):=Aep.2 fun x hx=>Aep.1 ha x (List.mem_of_mem_take hx)
theorem Bdc {a:List YB} {n:Nat} (ha:wfB a):wfB (a.drop n):=Aep.2 fun x hx=>Aep.1 ha x (List.mem_of_mem_drop hx)
theorem u8_in (n:Int):0<=IntKind.u8.wrap n/\IntKind.u8.wrap n<=255:=by rw[IntKind.wrap_u8];omega
theorem Bqx (k n p:List YB):wfB (mix k n p):=by
 unfold mix
 split
 .refine Aep.2 fun x hx=>?_
  unfold Ag1 at hx
  obtain⟨j,_,rfl⟩:=List.mem_map.1 hx
  exact u8_in _
 .exact Gs
theorem Br8 (sn:List YB) (ep seq kind:Int) (p t:List YB) (hk:inR kind 4 8=true) (ht:t.length=16):B6 (kind,0,[],sn,0,[],[],ep,seq,p,t,())=(((sn.length:Int)==12) && (inR ep 0 4294967295 && (inR seq 0 281474976710655 && Jb kind (p.length:Int)))):=by
 unfold B6
 simp only[hk,cond_true]
 simp[ht]
theorem Bhp {k n:Int} (h:Jb k n=true):n<=40:=by
 unfold Jb at h
 cases h4:(k==4)<;>cases h5:(k==5)<;>cases h6:(k==6)<;>simp[h4,h5,h6]at h<;>omega
theorem Bhq {k n p:List YB} (h1:p.length<=200) (h2:n.length<=100) (h3:k.length<=1048576):(mix k n p).length=p.length:=by
 unfold mix
 rw[if_pos ⟨h1,h2,h3⟩,Aqh]
theorem Bhr {k m:List YB} (h1:k.length<=1048576) (h2:m.length<=1048512):(T4 k m).length=16:=by
 unfold T4
 rw[List.length_take,Ob k m h1 h2];rfl
theorem Aal {k:List YB} {r:Int} {sn:List YB} {ep seq kind:Int} {p:List YB} (h:Mt k r sn ep seq kind p=true):B6 (Gn k r sn ep seq kind p).1=true:=by
 have h':=h
 unfold Mt Hs at h'
 simp only[Bool.and_eq_true]at h'
 obtain⟨a1,⟨a2,a3,a4,a5⟩,a6,a7⟩:=h'
 have hk:k.length=32:=by simp at a1;omega
 have hsn:sn.length=12:=by simp at a3;omega
 have hp:=Bhp a7
 have hl:(Eg r sn ep seq).length<=23:=by rw[Oo];cases Hs r sn ep seq<;>simp
 have hm:(mix k (Eg r sn ep seq) p).length=p.length:=Bhq zq0 zq0 zq0
 have hti:=Abr r (kind,0,[],sn,0,[],[],ep,seq,mix k (Eg r sn ep seq) p,P0,())
 have ht:(T4 k (Dy r (kind,0,[],sn,0,[],[],ep,seq,mix k (Eg r sn ep seq) p,P0,()))).length=16:=by
  refine Bhr zq0 ?_
  refine Nat.le_trans hti ?_
  simp only[Ar,List.length_nil,hsn,hm,P0,List.length_replicate];omega
 unfold Gn
 rw[h]
 simp only[cond_true]
 rw[Br8 _ _ _ _ _ _ a6 ht,hm,a3,a4,a5,a7];rfl
theorem Aeq {w:Db} (h:It w.2.1) {n:Int} (h0:0<=n):Adc w n=Aak w.2.1 (n%1024).toNat:=by
 obtain⟨m,rfl⟩:=Int.eq_ofNat_of_zero_le h0
 have hlt:m%1024/32<w.2.1.length:=by rw[h.1];omega
 have hx:=List.getElem?_eq_getElem hlt
 have hw:=h.2 _ _ hx
 obtain⟨k,hk⟩:=Int.eq_ofNat_of_zero_le hw.1
 have hid:idx w.2.1 ((m:Int)%1024/32)=some w.2.1[m%1024/32]:=by
  rw[show(m:Int)%1024/32=((m%1024/32:Nat):Int) by omega];exact Ca hx
 unfold Adc Aak
 rw[hid,show((m:Int)%1024).toNat=m%1024 by omega,hx]
 show(IntKind.i64.wrap _==1)=Nat.testBit (Int.toNat (w.2.1[m%1024/32]).1) _
 rw[hk,show((k:Int)).toNat=k by omega,show((m:Int)%32).toNat=m%32 by omega,show min (m%32) IntKind.i64.bits=m%32 from Nat.min_eq_left (by show m%32<=64;omega),show m%1024%32=m%32 by omega]
 have e1:Int.fdiv (k:Int) ((2:Int)^(m%32))=((k/2^(m%32):Nat):Int):=by
  rw[show((2:Int)^(m%32))=((2^(m%32):Nat):Int) by push_cast;rfl,Int.fdiv_eq_ediv_of_nonneg _ (Int.natCast_nonneg _)];rfl
 have hk32:k<4294967296:=by omega
 have hd:k/2^(m%32)<=k:=Nat.div_le_self _ _
 rw[e1,Oq]
 have e2:BitVec.ofInt IntKind.i64.bits (1:Int)=BitVec.ofNat 64 1:=Oq 1
 rw[e2]
 have e3:(BitVec.ofNat 64 (k/2^(m%32)) &&& BitVec.ofNat 64 1).toNat=k/2^(m%32)%2:=by
  rw[BitVec.toNat_and,BitVec.toNat_ofNat,BitVec.toNat_ofNat,Nat.mod_eq_of_lt (a:=k/2^(m%32)) (b:=2^64) (Nat.lt_of_le_of_lt hd zq0),show(1:Nat)%2^64=1 from rfl,Nat.and_one_is_mod]
 have e4:IntKind.i64.wrap (((BitVec.ofNat 64 (k/2^(m%32)) &&& BitVec.ofNat 64 1).toNat:Nat):Int)=((k/2^(m%32)%2:Nat):Int):=by
  rw[e3];exact w64 zq0
 show(IntKind.i64.wrap (((BitVec.ofNat 64 (k/2^(m%32)) &&& BitVec.ofNat 64 1).toNat:Nat):Int)==1)=_
 rw[e4,Nat.testBit_eq_decide_div_mod_eq]
 by_cases hb:k/2^(m%32)%2=1
 .simp[hb]
 .have:k/2^(m%32)%2=0:=by omega
  simp[this]
theorem A8l {w:Db} {n:Int} (h:Jf w n=true):Ih (J5 w n)=true:=by
 unfold Jf at h
 simp only[Bool.and_eq_true]at h
 obtain⟨h1,h2,h3⟩:=Acg h.1
 have hn:=Bj.1 h.2.1
 obtain⟨c1,c2⟩:=Wb h1 (s:=w.1+1) zq0 (Ak0 w.1 n)
 obtain⟨t1,t2⟩:=Awq (f:=Ag4) (g:=fun x y=>x || y) (fun hw hb=>A6c hw hb) (fun x=>by simp) c1 hn.1
 have ho:=h.1
 unfold Ih at ho
 simp only[Bool.and_eq_true]at ho
 have htop:(J5 w n).1=if w.1<n then n else w.1:=rfl
 have hbits:(J5 w n).2.1=Pc Ag4 (Nk w.2.1 (w.1+1) (Ak0 w.1 n)) n:=rfl
 have hwin:It (J5 w n).2.1:=t1
 have htail:=Ak2.1 ho.2.2.1
 unfold Ih
 simp only[Bool.and_eq_true]
 refine⟨Bj.2 (by rw[htop];split<;>omega),⟨Aed.2 fun q x hx=>by have:=hwin.2 q x hx;omega,by rw[hwin.1];rfl⟩,?_,?_⟩
 .refine Ak2.2 fun i hi=>?_
  rw[htop]at hi ⊢
  have hp:(0:Int)<=(if w.1<n then n else w.1)+1+(i:Nat):=by split<;>omega
  rw[Aeq hwin hp,hbits]
  generalize hq:((if w.1<n then n else w.1)+1+(i:Nat))=p at hp
  have hp2:p<=1023:=by rw[<-hq];split at hi<;>(split<;>omega)
  have hp3:w.1<p/\n<p:=by rw[<-hq];split<;>omega
  rw[t2 _ zq0,c2 _ zq0]
  have hne:decide ((((p%1024).toNat:Nat):Int)=n%1024)=false:=decide_eq_false zq0
  have hold:=htail (p-w.1-1).toNat zq0
  rw[show w.1+1+(((p-w.1-1).toNat:Nat):Int)=p by omega,Aeq h1 hp]at hold
  rw[hne,hold];rfl
 .rw[htop]
  by_cases hlt:w.1<n
  .rw[if_pos hlt,Aeq hwin hn.1,hbits,t2 _ zq0]
   rw[show decide ((((n%1024).toNat:Nat):Int)=n%1024)=true from decide_eq_true zq0]
   simp
  .rw[if_neg hlt,Aeq hwin zq0,hbits,t2 _ zq0,c2 _ zq0]
   have hm:Ak0 w.1 n=0:=by unfold Ak0;rw[if_pos zq0]
   have hold:=ho.2.2.2
   rw[show(w.1== -1)=false by simp;omega,Bool.false_or,Aeq h1 zq0]at hold
   rw[hold,hm]
   simp
theorem Avh (e:YEp) (r:YI) (f:Aq) (h:Cu e<=4294967296) (h2:Ar f<=536870912):I2 e r f=Mr e r f:=by
 obtain⟨r,⟨⟩⟩:=r
 obtain⟨e',p,z,k1,k2,_⟩:=Air e r f h h2
 rw[k1,k2]
theorem E8 {e:YEp} (h:Fs e=true):(0<=e.1/\e.1<=4294967295)/\e.2.1.length=32/\e.2.2.2.2.1.length=32:=by
 unfold Fs Ih at h
 simp only[Bool.and_eq_true,Bj]at h
 refine⟨h.1,by have:=h.2.1;simp at this;omega,by have:=h.2.2.2.2.1.2;simp at this;omega⟩
theorem Hg {c:Ap} (h:Ci c=true):(c.1=0\/c.1=1)/\c.2.1.length=12/\Fs (Lq c)=true/\Lr c=true/\(c.2.2.2.2.2.2.2.2.2.2.2.2.2.2.1.length=0\/(c.1=0/\c.2.2.2.2.2.2.2.2.2.2.2.2.2.2.1.length=32/\c.2.2.1<4294967295)):=by
 unfold Ci at h
 simp only[Bool.not_not,Bool.and_eq_true,Bool.or_eq_true,beq_iff_eq,decide_eq_true_eq]at h
 refine⟨h.1,by omega,h.2.2.1,h.2.2.2.1,?_⟩
 rcases h.2.2.2.2 with q|q
 .left;have:=q;simp only[J4]at this;omega
 .right;have:=q;simp only[J4]at this;exact⟨this.1,by omega,this.2.2⟩
theorem Ak3 {c:Ap} (h:Lr c=true) (hh:Xr c=true) (hN:0<=c.2.2.1/\c.2.2.1<=4294967295):Fs (Vh c)=true/\c.2.2.2.2.2.2.2.1=c.2.2.1-1/\((0<=Aab c/\Aab c<=1000005)\/(Aab c= -1/\c.1=1)):=by
 unfold Lr at h
 rw[hh]at h
 simp only[Bool.not_true,cond_false,Bool.not_not,Bool.and_eq_true,Bool.or_eq_true,Bool.not_eq_true',bne_eq_false_iff_eq,Bj,beq_iff_eq]at h
 refine⟨h.1,?_,h.2.2⟩
 have:=h.2.1
 have this:c.2.2.2.2.2.2.2.1=IntKind.i64.wrap (c.2.2.1-1):=this
 rw[w64 zq0]at this
 exact this
theorem Bf9 (c:Ap) (n:YI) (f:Aq) (h:A6 c<=67000000) (h2:Ar f<=67108864) (w1:wfB f.2.2.2.1) (w2:wfB c.2.1):N9 c n f=Ll c n f:=by
 have hc:=h
 simp only[A6]at hc
 have hsn:f.2.2.2.1.length<=Ar f:=by simp only[Ar];omega
 obtain⟨d,d1,d2,d3⟩:=Bho f.2.2.2.1 c.2.1 zq0
 have d3:=d3 w1 w2
 unfold N9 Aga Ll Agy
 simp only[Af,Ag,Aa]
 rw[Tn c zq0,R9 c zq0,Vt c A53 A54,R0 c,Cj,Cq,Aaf,Aag,Ms,Jc,Z9,d1]
 simp only[Ae]
 cases ho:Ci c with
 |false=>rfl
 |true=>
 cases inR n.1 0 1000000 with
 |false=>rfl
 |true=>
 simp only[Bool.not_true,An]
 cases inR f.1 4 8 with
 |false=>cases B6 f<;>rfl
 |true=>
 cases B6 f with
 |false=>rfl
 |true=>
 simp only[Bool.not_true,An]
 obtain⟨f1,f2,f3,f4,f5⟩:=Hg ho
 obtain⟨f6,f7,f8⟩:=E8 f3
 have f6:0<=c.2.2.1/\c.2.2.1<=4294967295:=f6
 have hwN:IntKind.i64.wrap (c.2.2.1+(1:Int))=c.2.2.1+1:=w64 zq0
 have hE1:=Avh (c.2.2.1,c.2.2.2.1,c.2.2.2.2.1,c.2.2.2.2.2.1,c.2.2.2.2.2.2.1,()) (IntKind.i64.wrap ((1:Int)-c.1),()) f (by simp only[Cu];omega) zq0
 have hE2:=Avh (c.2.2.2.2.2.2.2.1,c.2.2.2.2.2.2.2.2.1,c.2.2.2.2.2.2.2.2.2.1,c.2.2.2.2.2.2.2.2.2.2.1,c.2.2.2.2.2.2.2.2.2.2.2.1,()) (IntKind.i64.wrap ((1:Int)-c.1),()) f (by simp only[Cu];omega) zq0
 obtain⟨en,n1,n2,n3⟩:=Aqm (IntKind.i64.wrap (c.2.2.1+(1:Int)),()) (c.2.2.2.2.2.2.2.2.2.2.2.2.2.2.1,())
 have hE3:=Avh en (IntKind.i64.wrap ((1:Int)-c.1),()) f zq0 zq0
 by_cases hs:f.2.2.2.1=c.2.1
 case neg=>
  have e1:(d != (0:Int))=true:=by simp;exact fun e=>hs (d3.1 e)
  have e2:Dx f.2.2.2.1 c.2.1=false:=by
   cases hh:Dx f.2.2.2.1 c.2.1 with
   |false=>rfl
   |true=>exact(hs (Bc5 w1 w2 hh)).elim
  rw[e1,e2]
  cases c.2.2.2.2.2.2.2.2.2.2.2.2.1<;>cases decide ((c.2.2.2.2.2.2.2.2.2.2.2.2.2.2.1.length:Int)>(0:Int))<;>rfl
 case pos=>
 have e1:(d != (0:Int))=false:=by simp;exact d3.2 hs
 have e2:Dx f.2.2.2.1 c.2.1=true:=by rw[hs];exact Kh _
 rw[e1,e2]
 simp only[Bool.not_true,An]
 have main (r:YEp×YBs×YI):(Th r c f c n).val=br (r.2.2.1 != (0:Int)) (some (c,(([]:List YB),()),r.2.2)) ((K6 f c c r n).val):=rfl
 have main2 (r:YEp×YBs×YI):(Xo r c f c n).val=br (r.2.2.1 != (0:Int)) (some (c,(([]:List YB),()),r.2.2)) ((Qy f c c r n).val):=rfl
 have hA:c.2.2.2.2.2.2.2.2.2.2.2.2.1=true->c.2.2.2.2.2.2.2.1=c.2.2.1-1:=fun hh=>(Ak3 f4 hh f6).2.1
 cases hold:c.2.2.2.2.2.2.2.2.2.2.2.2.1 with
 |true=>
  have hoN:=hA hold
  by_cases hb:f.2.2.2.2.2.2.2.1=c.2.2.1
  .have q1:(f.2.2.2.2.2.2.2.1==c.2.2.1)=true:=by simpa using hb
   have q2:(f.2.2.2.2.2.2.2.1==c.2.2.2.2.2.2.2.1)=false:=by simp;omega
   have q3:(f.2.2.2.2.2.2.2.1==IntKind.i64.wrap (c.2.2.1+(1:Int)))=false:=by rw[hwN];simp;omega
   simp only[q1,Bool.not_true,An,A9]
   rw[<-hE1]
   cases hnx:decide ((c.2.2.2.2.2.2.2.2.2.2.2.2.2.2.1.length:Int)>(0:Int))with
   |true=>
    simp only[A9]
    unfold Jv
    simp only[Af,q2,An]
    unfold Ju
    simp only[Af,q2,An]
    unfold Xn
    simp only[Af,q3,An]
    unfold Qw
    simp only[Ag,main]
    unfold K6
    simp only[Af,q1,A9]
    unfold N8
    simp only[Af,hold,A9]
    unfold Z4
    simp only[Af,Aa,hold]
   |false=>
    simp only[An]
    unfold Qx
    simp only[Af,q2,An]
    unfold Mq
    simp only[Af,q2,An]
    unfold Qw
    simp only[Ag,main]
    unfold K6
    simp only[Af,q1,A9]
    unfold N8
    simp only[Af,hold,A9]
    unfold Z4
    simp only[Af,Aa,hold]
  .have q1:(f.2.2.2.2.2.2.2.1==c.2.2.1)=false:=by simpa using hb
   simp only[q1,Bool.not_false,An,A9]
   by_cases ho2:f.2.2.2.2.2.2.2.1=c.2.2.2.2.2.2.2.1
   .have q2:(f.2.2.2.2.2.2.2.1==c.2.2.2.2.2.2.2.1)=true:=by simpa using ho2
    have q3:(f.2.2.2.2.2.2.2.1==IntKind.i64.wrap (c.2.2.1+(1:Int)))=false:=by rw[hwN];simp;omega
    simp only[q2,Bool.not_true,An,A9]
    rw[<-hE2]
    have fin:(Ti c f c n).val=ob (I2 (c.2.2.2.2.2.2.2.1,c.2.2.2.2.2.2.2.2.1,c.2.2.2.2.2.2.2.2.2.1,c.2.2.2.2.2.2.2.2.2.2.1,c.2.2.2.2.2.2.2.2.2.2.2.1,()) (IntKind.i64.wrap ((1:Int)-c.1),()) f) fun r=>br (r.2.2.1 != (0:Int)) (some (c,(([]:List YB),()),r.2.2)) (some ((c.1,c.2.1,c.2.2.1,c.2.2.2.1,c.2.2.2.2.1,c.2.2.2.2.2.1,c.2.2.2.2.2.2.1,r.1.1,r.1.2.1,r.1.2.2.1,r.1.2.2.2.1,r.1.2.2.2.2.1,true,c.2.2.2.2.2.2.2.2.2.2.2.2.2.1,c.2.2.2.2.2.2.2.2.2.2.2.2.2.2.1,()),r.2.1,((0:Int),()))):=by
     unfold Ti
     simp only[Ag,main]
     unfold K6
     simp only[Af,q1,An]
     unfold Z5
     simp only[Af,q2,A9,Aa,hold]
    cases hnx:decide ((c.2.2.2.2.2.2.2.2.2.2.2.2.2.2.1.length:Int)>(0:Int))with
    |true=>
     simp only[A9]
     unfold Jv
     simp only[Af,q2,A9]
     unfold Aig
     simp only[Af]
     unfold Aif
     simp only[Af,Aa]
     unfold Ju
     simp only[Af,q2,A9]
     unfold Al9
     simp only[Af,q3,An,fin]
    |false=>
     simp only[An]
     unfold Qx
     simp only[Af,q2,A9]
     unfold Aii
     simp only[Af]
     unfold Aih
     simp only[Af,Aa]
     unfold Mq
     simp only[Af,q2,A9,fin]
   .have q2:(f.2.2.2.2.2.2.2.1==c.2.2.2.2.2.2.2.1)=false:=by simpa using ho2
    simp only[q2,Bool.not_false,An,A9]
    cases hnx:decide ((c.2.2.2.2.2.2.2.2.2.2.2.2.2.2.1.length:Int)>(0:Int))with
    |false=>rfl
    |true=>
     simp only[A9]
     cases q3:(f.2.2.2.2.2.2.2.1==IntKind.i64.wrap (c.2.2.1+(1:Int)))with
     |false=>rfl
     |true=>
      simp only[Bool.not_true,An,A9]
      rw[n2]
      simp only[Ae]
      rw[<-hE3]
      unfold Jv
      simp only[Af,q2,An]
      unfold Ju
      simp only[Af,q2,An]
      unfold Xn
      simp only[Af,q3,A9]
      unfold Z6
      simp only[Ag]
      rw[n1]
      simp only[Ae]
      unfold Al8
      simp only[Ag,main]
      unfold K6
      simp only[Af,q1,An]
      unfold Z5
      simp only[Af,q2,An,Aa]
 |false=>
  by_cases hb:f.2.2.2.2.2.2.2.1=c.2.2.1
  .have q1:(f.2.2.2.2.2.2.2.1==c.2.2.1)=true:=by simpa using hb
   have q3:(f.2.2.2.2.2.2.2.1==IntKind.i64.wrap (c.2.2.1+(1:Int)))=false:=by rw[hwN];simp;omega
   simp only[q1,Bool.not_true,An,A9]
   rw[<-hE1]
   have fin:(Qz c f c n).val=ob (I2 (c.2.2.1,c.2.2.2.1,c.2.2.2.2.1,c.2.2.2.2.2.1,c.2.2.2.2.2.2.1,()) (IntKind.i64.wrap ((1:Int)-c.1),()) f) fun r=>br (r.2.2.1 != (0:Int)) (some (c,(([]:List YB),()),r.2.2)) (some ((c.1,c.2.1,r.1.1,r.1.2.1,r.1.2.2.1,r.1.2.2.2.1,r.1.2.2.2.2.1,c.2.2.2.2.2.2.2.1,c.2.2.2.2.2.2.2.2.1,c.2.2.2.2.2.2.2.2.2.1,c.2.2.2.2.2.2.2.2.2.2.1,c.2.2.2.2.2.2.2.2.2.2.2.1,false,c.2.2.2.2.2.2.2.2.2.2.2.2.2.1,c.2.2.2.2.2.2.2.2.2.2.2.2.2.2.1,()),r.2.1,((0:Int),()))):=by
    unfold Qz
    simp only[Ag,main2]
    unfold Qy
    simp only[Af,q1,A9]
    unfold N8
    simp only[Af,hold,An,Aa]
   cases hnx:decide ((c.2.2.2.2.2.2.2.2.2.2.2.2.2.2.1.length:Int)>(0:Int))with
   |true=>
    simp only[A9]
    unfold Q0
    simp only[Af,q3,An,fin]
   |false=>
    simp only[An,fin]
  .have q1:(f.2.2.2.2.2.2.2.1==c.2.2.1)=false:=by simpa using hb
   simp only[q1,Bool.not_false,An,A9]
   cases hnx:decide ((c.2.2.2.2.2.2.2.2.2.2.2.2.2.2.1.length:Int)>(0:Int))with
   |false=>rfl
   |true=>
    simp only[A9]
    cases q3:(f.2.2.2.2.2.2.2.1==IntKind.i64.wrap (c.2.2.1+(1:Int)))with
    |false=>rfl
    |true=>
     simp only[Bool.not_true,An,A9]
     rw[n2]
     simp only[Ae]
     rw[<-hE3]
     unfold Q0
     simp only[Af,q3,A9]
     unfold Aik
     simp only[Ag]
     rw[n1]
     simp only[Ae]
     unfold Aij
     simp only[Ag,main2]
     unfold Qy
     simp only[Af,q1,An,Aa]
def Amn (c:Ap) (e:YEp):Ap:=(c.1,c.2.1,c.2.2.1,c.2.2.2.1,c.2.2.2.2.1,c.2.2.2.2.2.1,c.2.2.2.2.2.2.1,e.1,e.2.1,e.2.2.1,e.2.2.2.1,e.2.2.2.2.1,c.2.2.2.2.2.2.2.2.2.2.2.2.1,c.2.2.2.2.2.2.2.2.2.2.2.2.2.1,c.2.2.2.2.2.2.2.2.2.2.2.2.2.2.1,())
def Ach (c:Ap) (u:Int):Ap:=(c.1,c.2.1,c.2.2.1,c.2.2.2.1,c.2.2.2.2.1,c.2.2.2.2.2.1,c.2.2.2.2.2.2.1,c.2.2.2.2.2.2.2.1,c.2.2.2.2.2.2.2.2.1,c.2.2.2.2.2.2.2.2.2.1,c.2.2.2.2.2.2.2.2.2.2.1,c.2.2.2.2.2.2.2.2.2.2.2.1,c.2.2.2.2.2.2.2.2.2.2.2.2.1,u,c.2.2.2.2.2.2.2.2.2.2.2.2.2.2.1,())
def moved (c:Ap) (e:YEp) (u:Int):Ap:=(c.1,c.2.1,e.1,e.2.1,e.2.2.1,e.2.2.2.1,e.2.2.2.2.1,c.2.2.1,c.2.2.2.1,c.2.2.2.2.1,c.2.2.2.2.2.1,c.2.2.2.2.2.2.1,true,u,([]:List YB),())
def Bo1 (e:YEp) (n:Int):YEp:=(e.1,e.2.1,e.2.2.1,(J5 (e.2.2.2.1,e.2.2.2.2.1,()) n).1,(J5 (e.2.2.2.1,e.2.2.2.2.1,()) n).2.1,())
theorem Bqy {e:YEp} {n:Int} (h:Fs e=true) (hm:Jf (e.2.2.2.1,e.2.2.2.2.1,()) n=true):Fs (Bo1 e n)=true:=by
 have hw:=A8l hm
 unfold Fs at h ⊢
 simp only[Bool.and_eq_true]at h ⊢
 exact⟨h.1,h.2.1,h.2.2.1,hw⟩
theorem EpO.ok {e:YEp} {r:Int} {f:Aq} {e':YEp} {p:List YB} {z:Int} (h:EpO e r f e' p z) (hz:z=0):Fs e=true/\e'=Bo1 e f.2.2.2.2.2.2.2.2.1/\Fs e'=true/\f.2.2.2.2.2.2.2.1=e.1/\p=mix e.2.1 (Eg r f.2.2.2.1 f.2.2.2.2.2.2.2.1 f.2.2.2.2.2.2.2.2.1) f.2.2.2.2.2.2.2.2.2.1:=by
 obtain⟨h1,h2,h3,h4⟩:=h
 obtain⟨k1,k2,k3,k4,k5⟩:=h4 hz
 have k2':e'=Bo1 e f.2.2.2.2.2.2.2.2.1:=k2
 exact⟨k1,k2',by rw[k2'];exact Bqy k1 k3,k4,k5⟩
theorem Aef {f:Aq} (h:B6 f=true) (hs:inR f.1 4 8=true):f.2.2.2.1.length=12/\(0<=f.2.2.2.2.2.2.2.1/\f.2.2.2.2.2.2.2.1<=4294967295)/\(0<=f.2.2.2.2.2.2.2.2.1/\f.2.2.2.2.2.2.2.2.1<=281474976710655)/\Jb f.1 (f.2.2.2.2.2.2.2.2.2.1.length:Int)=true/\f.2.2.2.2.2.2.2.2.2.1.length<=40:=by
 unfold B6 at h
 rw[hs]at h
 simp only[cond_true,Bool.and_eq_true,Bj,beq_iff_eq]at h
 have hb:=h.2.2.2.2.2.2.2.2.1
 have:=Bhp hb
 exact⟨by omega,h.2.2.2.2.2.2.1,h.2.2.2.2.2.2.2.1,hb,by omega⟩
def ChO (c:Ap) (n:Int) (f:Aq) (c':Ap) (p:List YB) (z:Int):Prop:=
 A6 c'<=A6 c+200/\p.length<=Ar f/\(z≠0->c'=c/\p=[])/\
 (z=0->Ci c=true/\Ci c'=true/\(0<=n/\n<=1000000)/\B6 f=true/\inR f.1 4 8=true/\f.2.2.2.1=c.2.1/\c'.1=c.1/\c'.2.1=c.2.1/\
  p.length=f.2.2.2.2.2.2.2.2.2.1.length/\wfB p/\
  ((c'.2.2.1=c.2.2.1/\J4 c'=J4 c/\c'.2.2.2.2.1=c.2.2.2.2.1/\c'.2.2.2.1=c.2.2.2.1)\/(c'.2.2.1=c.2.2.1+1/\J4 c'=[]/\c'.2.2.2.2.1=0/\f.2.2.2.2.2.2.2.1=c.2.2.1+1/\(J4 c).length=32)))
theorem Bdd {c:Ap} {u:Int} (h:Ci c=true) (hh:Xr c=true) (hu:0<=u/\u<=1000005):Ci (Ach c u)=true:=by
 unfold Ci at h ⊢
 simp only[Bool.not_not,Bool.and_eq_true]at h ⊢
 refine⟨h.1,h.2.1,h.2.2.1,?_,h.2.2.2.2⟩
 have ho:=h.2.2.2.1
 unfold Lr at ho ⊢
 rw[hh]at ho
 have hh':Xr (Ach c u)=true:=hh
 rw[hh']
 simp only[Bool.not_true,cond_false,Bool.not_not,Bool.and_eq_true,Bool.or_eq_true]at ho ⊢
 exact⟨ho.1,ho.2.1,.inl (Bj.2 hu)⟩
theorem Bj1 {c:Ap} {e:YEp} (h:Ci c=true) (hh:Xr c=true) (he:Fs e=true) (h1:e.1=(Vh c).1):Ci (Amn c e)=true:=by
 unfold Ci at h ⊢
 simp only[Bool.not_not,Bool.and_eq_true]at h ⊢
 refine⟨h.1,h.2.1,h.2.2.1,?_,h.2.2.2.2⟩
 have ho:=h.2.2.2.1
 unfold Lr at ho ⊢
 rw[hh]at ho
 have hh':Xr (Amn c e)=true:=hh
 rw[hh']
 simp only[Bool.not_true,cond_false,Bool.not_not,Bool.and_eq_true,Bool.or_eq_true]at ho ⊢
 refine⟨he,?_,ho.2.2⟩
 have:=ho.2.1
 rw[<-h1]at this
 exact this
theorem Bo2 {c:Ap} {e:YEp} {u:Int} (h:Ci c=true) (he:Fs e=true) (h1:e.1=c.2.2.1+1) (hu:0<=u/\u<=1000005):Ci (moved c e u)=true:=by
 obtain⟨f1,f2,f3,f4,f5⟩:=Hg h
 have f6:=(E8 f3).1
 have f7:=(E8 he).1
 unfold Ci at h ⊢
 simp only[Bool.not_not,Bool.and_eq_true]at h ⊢
 refine⟨h.1,h.2.1,he,?_,?_⟩
 .unfold Lr
  have hh:Xr (moved c e u)=true:=rfl
  rw[hh]
  simp only[Bool.not_true,cond_false,Bool.not_not,Bool.and_eq_true,Bool.or_eq_true,Bool.not_eq_true',bne_eq_false_iff_eq]
  refine⟨f3,?_,.inl (Bj.2 hu)⟩
  show c.2.2.1=IntKind.i64.wrap (e.1-1)
  have f6':0<=c.2.2.1/\c.2.2.1<=4294967295:=f6
  rw[w64 zq0];omega
 .show(((([]:List YB).length:Int)==0) || _)=true
  rfl
theorem Bj2 (c:Ap) (n:YI) (f:Aq) (h:A6 c<=67000000) (h2:Ar f<=67108864) (w1:wfB f.2.2.2.1) (w2:wfB c.2.1):
  ∃c' p z,Ll c n f=some (c',(p,()),(z,()))/\ChO c n.1 f c' p z:=by
 have hc:=h
 simp only[A6]at hc
 unfold Ll Agy
 simp only[Af,Ag,Aa]
 rw[R9 c zq0,R0 c,Cq,Aag,Jc,Z9]
 simp only[Ae]
 have nope: ∀z:Int,z≠0-> ∃c' p z',some (c,(([]:List YB),()),(z,()))=some (c',(p,()),(z',()))/\ChO c n.1 f c' p z':=fun z hz=>
  ⟨c,[],z,rfl,by omega,by simp,fun _=>⟨rfl,rfl⟩,fun h=>(hz h).elim⟩
 cases ho:Ci c with
 |false=>exact nope 1 zq7
 |true=>
 cases hn:inR n.1 0 1000000 with
 |false=>exact nope 1 zq7
 |true=>
 simp only[Bool.not_true,An]
 cases hfo:B6 f with
 |false=>exact nope 1 zq7
 |true=>
 simp only[Bool.not_true,An]
 cases hse:inR f.1 4 8 with
 |false=>exact nope 1 zq7
 |true=>
 simp only[Bool.not_true,An]
 have hn':=Bj.1 hn
 obtain⟨b1,b2,b3,b4,b5⟩:=Aef hfo hse
 obtain⟨f1,f2,f3,f4,f5⟩:=Hg ho
 obtain⟨f6,f7,f8⟩:=E8 f3
 have f6:0<=c.2.2.1/\c.2.2.1<=4294967295:=f6
 have hwN:IntKind.i64.wrap (c.2.2.1+(1:Int))=c.2.2.1+1:=w64 zq0
 have hw5:IntKind.i64.wrap (n.1+(5:Int))=n.1+5:=w64 zq0
 have hr:IntKind.i64.wrap ((1:Int)-c.1)=1-c.1:=w64 zq0
 obtain⟨e1,p1,z1,_,s1,E1⟩:=Air (c.2.2.1,c.2.2.2.1,c.2.2.2.2.1,c.2.2.2.2.2.1,c.2.2.2.2.2.2.1,()) (1-c.1) f (by simp only[Cu];omega) zq0
 obtain⟨e2,p2,z2,_,s2,E2⟩:=Air (c.2.2.2.2.2.2.2.1,c.2.2.2.2.2.2.2.2.1,c.2.2.2.2.2.2.2.2.2.1,c.2.2.2.2.2.2.2.2.2.2.1,c.2.2.2.2.2.2.2.2.2.2.2.1,()) (1-c.1) f (by simp only[Cu];omega) zq0
 obtain⟨en,n1,n2,n3⟩:=Aqm (IntKind.i64.wrap (c.2.2.1+(1:Int)),()) (c.2.2.2.2.2.2.2.2.2.2.2.2.2.2.1,())
 obtain⟨e3,p3,z3,_,s3,E3⟩:=Air en (1-c.1) f zq0 zq0
 rw[hr,s1,s2,n2]
 simp only[Ae]
 rw[s3]
 simp only[Ae]
 cases hs:Dx f.2.2.2.1 c.2.1 with
 |false=>exact nope 8 zq7
 |true=>
 have hsn:=Bc5 w1 w2 hs
 simp only[Bool.not_true,An]
 have pl: ∀ {k:List YB} {p:List YB},k.length=32->p=mix k (Eg (1-c.1) f.2.2.2.1 f.2.2.2.2.2.2.2.1 f.2.2.2.2.2.2.2.2.1) f.2.2.2.2.2.2.2.2.2.1->p.length=f.2.2.2.2.2.2.2.2.2.1.length/\wfB p:=fun {k p} hk hp=>by
  have hl:(Eg (1-c.1) f.2.2.2.1 f.2.2.2.2.2.2.2.1 f.2.2.2.2.2.2.2.2.1).length<=23:=by
   rw[Oo];cases Hs (1-c.1) f.2.2.2.1 f.2.2.2.2.2.2.2.1 f.2.2.2.2.2.2.2.2.1<;>simp
  rw[hp]
  exact⟨Bhq zq0 zq0 zq0,Bqx _ _ _⟩
 have hnE1:Cu e1=Cu (Lq c):=E1.1
 have hnE2:Cu e2=Cu (Vh c):=E2.1
 simp only[Cu,Lq]at hnE1
 simp only[Cu,Vh]at hnE2
 have hpn: ∀p:List YB,p.length=f.2.2.2.2.2.2.2.2.2.1.length->p.length<=Ar f:=fun p h=>by simp only[Ar];omega
 cases q1:(f.2.2.2.2.2.2.2.1==c.2.2.1)with
 |true=>
  simp only[A9]
  by_cases hz:z1=0
  .subst hz
   simp only[show((0:Int) != (0:Int))=false from rfl,An]
   obtain⟨o1,o2,o3,o4,o5⟩:=E1.ok rfl
   obtain⟨g1,g2⟩:=pl f7 o5
   have hN:e1.1=c.2.2.1:=by rw[o2];rfl
   have hcur:=A31 ho o3 hN
   have hk:e1.2.1=c.2.2.2.1:=by rw[o2];rfl
   have hq:e1.2.2.1=c.2.2.2.2.1:=by rw[o2];rfl
   have plain:ChO c n.1 f (Gt c e1) p1 0:=⟨by simp only[A6,Gt];omega,hpn _ g1,fun h=>(h rfl).elim,fun _=>⟨ho,hcur,hn',hfo,hse,hsn,rfl,rfl,g1,g2,.inl ⟨hN,rfl,hq,hk⟩⟩⟩
   cases hold:c.2.2.2.2.2.2.2.2.2.2.2.2.1 with
   |true=>
    simp only[A9]
    cases hu:(c.2.2.2.2.2.2.2.2.2.2.2.2.2.1==(-1:Int))with
    |true=>
     rw[A9,hw5]
     have hw:=Bdd (c:=Gt c e1) (u:=n.1+5) hcur hold zq0
     refine⟨_,p1,0,rfl,?_⟩
     rw[show((c.1,c.2.1,e1.1,e1.2.1,e1.2.2.1,e1.2.2.2.1,e1.2.2.2.2.1,c.2.2.2.2.2.2.2.1,c.2.2.2.2.2.2.2.2.1,c.2.2.2.2.2.2.2.2.2.1,c.2.2.2.2.2.2.2.2.2.2.1,c.2.2.2.2.2.2.2.2.2.2.2.1,true,n.1+5,c.2.2.2.2.2.2.2.2.2.2.2.2.2.2.1,()):Ap)=Ach (Gt c e1) (n.1+5) by simp only[Ach,Gt,hold]]
     exact⟨by simp only[A6,Gt,Ach];omega,hpn _ g1,fun h=>(h rfl).elim,fun _=>⟨ho,hw,hn',hfo,hse,hsn,rfl,rfl,g1,g2,.inl ⟨hN,rfl,hq,hk⟩⟩⟩
    |false=>
     rw[An]
     refine⟨_,p1,0,rfl,?_⟩
     rw[show((c.1,c.2.1,e1.1,e1.2.1,e1.2.2.1,e1.2.2.2.1,e1.2.2.2.2.1,c.2.2.2.2.2.2.2.1,c.2.2.2.2.2.2.2.2.1,c.2.2.2.2.2.2.2.2.2.1,c.2.2.2.2.2.2.2.2.2.2.1,c.2.2.2.2.2.2.2.2.2.2.2.1,true,c.2.2.2.2.2.2.2.2.2.2.2.2.2.1,c.2.2.2.2.2.2.2.2.2.2.2.2.2.2.1,()):Ap)=Gt c e1 by simp only[Gt,hold]]
     exact plain
   |false=>
    rw[An]
    refine⟨_,p1,0,rfl,?_⟩
    rw[show((c.1,c.2.1,e1.1,e1.2.1,e1.2.2.1,e1.2.2.2.1,e1.2.2.2.2.1,c.2.2.2.2.2.2.2.1,c.2.2.2.2.2.2.2.2.1,c.2.2.2.2.2.2.2.2.2.1,c.2.2.2.2.2.2.2.2.2.2.1,c.2.2.2.2.2.2.2.2.2.2.2.1,false,c.2.2.2.2.2.2.2.2.2.2.2.2.2.1,c.2.2.2.2.2.2.2.2.2.2.2.2.2.2.1,()):Ap)=Gt c e1 by simp only[Gt,hold]]
    exact plain
  .simp only[show(z1 != (0:Int))=true by simpa using hz,A9]
   exact nope z1 hz
 |false=>
  simp only[An]
  have nxt: ∃c' p z,(br (decide ((c.2.2.2.2.2.2.2.2.2.2.2.2.2.2.1.length:Int)>(0:Int))) (br (f.2.2.2.2.2.2.2.1==IntKind.i64.wrap (c.2.2.1+(1:Int))) (br (z3 != (0:Int)) (some (c,(([]:List YB),()),(z3,()))) (some ((c.1,c.2.1,e3.1,e3.2.1,e3.2.2.1,e3.2.2.2.1,e3.2.2.2.2.1,c.2.2.1,c.2.2.2.1,c.2.2.2.2.1,c.2.2.2.2.2.1,c.2.2.2.2.2.2.1,true,IntKind.i64.wrap (n.1+(5:Int)),([]:List YB),()),(p3,()),((0:Int),())))) (some (c,(([]:List YB),()),((8:Int),())))) (some (c,(([]:List YB),()),((8:Int),()))))=some (c',(p,()),(z,()))/\ChO c n.1 f c' p z:=by
   cases hnx:decide ((c.2.2.2.2.2.2.2.2.2.2.2.2.2.2.1.length:Int)>(0:Int))with
   |false=>exact nope 8 zq7
   |true=>
   have hnx':(c.2.2.2.2.2.2.2.2.2.2.2.2.2.2.1.length:Int)>0:=of_decide_eq_true hnx
   obtain⟨k1,k2,k3⟩:=f5.resolve_left zq0
   simp only[A9]
   cases q3:(f.2.2.2.2.2.2.2.1==IntKind.i64.wrap (c.2.2.1+(1:Int)))with
   |false=>exact nope 8 zq7
   |true=>
   rw[hwN]at q3
   have q3:f.2.2.2.2.2.2.2.1=c.2.2.1+1:=by simpa using q3
   simp only[A9]
   by_cases hz:z3=0
   .subst hz
    simp only[show((0:Int) != (0:Int))=false from rfl,An,hw5]
    obtain⟨o1,o2,o3,o4,o5⟩:=E3.ok rfl
    obtain⟨g1,g2⟩:=pl (E8 o1).2.1 o5
    have hN:e3.1=c.2.2.1+1:=by rw[o2];show en.1=_;rw[<-o4,q3]
    have hs0:e3.2.2.1=0:=by
     rw[o2]
     show en.2.2.1=0
     unfold Fj Ab0 at n2
     simp only[Af,Ag,Aa,Aj,Cq,Ae]at n2
     cases hb:inR (IntKind.i64.wrap (c.2.2.1+(1:Int))) 0 4294967295 with
     |false=>
      rw[hb]at n2
      simp only[Bool.not_false,A9,Option.some.injEq]at n2
      rw[<-n2]
     |true=>
      rw[hb]at n2
      simp only[Bool.not_true,An]at n2
      rw[C6 zq1,Ag2,Ag3]at n2
      simp only[Ae]at n2
      rw[Al zq1,Ba]at n2
      simp only[Option.some.injEq]at n2
      rw[<-n2]
    obtain⟨_,l1,l2⟩:=E8 o3
    have hmv:=Bo2 (u:=n.1+5) ho o3 hN zq0
    refine⟨moved c e3 (n.1+5),p3,0,rfl,?_,hpn _ g1,fun h=>(h rfl).elim,fun _=>⟨ho,hmv,hn',hfo,hse,hsn,rfl,rfl,g1,g2,.inr ⟨hN,rfl,hs0,q3,k2⟩⟩⟩
    simp only[A6,moved,List.length_nil];omega
   .simp only[show(z3 != (0:Int))=true by simpa using hz,A9]
    exact nope z3 hz
  cases hold:c.2.2.2.2.2.2.2.2.2.2.2.2.1 with
  |false=>exact nxt
  |true=>
   simp only[A9]
   obtain⟨v1,v2,v3⟩:=Ak3 f4 hold f6
   have old: ∃c' p z,(br (z2 != (0:Int)) (some (c,(([]:List YB),()),(z2,()))) (some ((c.1,c.2.1,c.2.2.1,c.2.2.2.1,c.2.2.2.2.1,c.2.2.2.2.2.1,c.2.2.2.2.2.2.1,e2.1,e2.2.1,e2.2.2.1,e2.2.2.2.1,e2.2.2.2.2.1,true,c.2.2.2.2.2.2.2.2.2.2.2.2.2.1,c.2.2.2.2.2.2.2.2.2.2.2.2.2.2.1,()),(p2,()),((0:Int),()))))=some (c',(p,()),(z,()))/\ChO c n.1 f c' p z:=by
    by_cases hz:z2=0
    .subst hz
     simp only[show((0:Int) != (0:Int))=false from rfl,An]
     obtain⟨o1,o2,o3,o4,o5⟩:=E2.ok rfl
     obtain⟨g1,g2⟩:=pl (E8 o1).2.1 o5
     have hwo:=Bj1 ho hold o3 (by rw[o2];rfl)
     refine⟨_,p2,0,rfl,?_⟩
     rw[show((c.1,c.2.1,c.2.2.1,c.2.2.2.1,c.2.2.2.2.1,c.2.2.2.2.2.1,c.2.2.2.2.2.2.1,e2.1,e2.2.1,e2.2.2.1,e2.2.2.2.1,e2.2.2.2.2.1,true,c.2.2.2.2.2.2.2.2.2.2.2.2.2.1,c.2.2.2.2.2.2.2.2.2.2.2.2.2.2.1,()):Ap)=Amn c e2 by simp only[Amn,hold]]
     exact⟨by simp only[A6,Amn];omega,hpn _ g1,fun h=>(h rfl).elim,fun _=>⟨ho,hwo,hn',hfo,hse,hsn,rfl,rfl,g1,g2,.inl ⟨rfl,rfl,rfl,rfl⟩⟩⟩
    .simp only[show(z2 != (0:Int))=true by simpa using hz,A9]
     exact nope z2 hz
   cases q2:(f.2.2.2.2.2.2.2.1==c.2.2.2.2.2.2.2.1)with
   |false=>exact nxt
   |true=>
    simp only[A9]
    cases (c.2.2.2.2.2.2.2.2.2.2.2.2.2.1 != (-1:Int))with
    |false=>exact old
    |true=>
     simp only[A9]
     cases decide (n.1>c.2.2.2.2.2.2.2.2.2.2.2.2.2.1)with
     |true=>exact nope 9 zq7
     |false=>exact old
theorem Ay1 (c:Ap) (n:YI) (f:Aq) (h:A6 c<=67000000) (h2:Ar f<=67108864) (w1:wfB f.2.2.2.1) (w2:wfB c.2.1):
  ∃c' p z,N9 c n f=some (c',(p,()),(z,()))/\Ll c n f=some (c',(p,()),(z,()))/\ChO c n.1 f c' p z:=by
 obtain⟨c',p,z,k1,k2⟩:=Bj2 c n f h h2 w1 w2
 exact⟨c',p,z,(Bf9 c n f h h2 w1 w2).trans k1,k1,k2⟩
theorem A8m (c:Ap) (n:YI) (h:A6 c<=67000000): ∃k b,Xp c n=some ((k,()),(b,()))/\Aea c n=some ((k,()),(b,()))/\k.length<=A6 c/\(k.length=0\/k.length=32):=by
 have hc:=h
 simp only[A6]at hc
 unfold Xp Aph Aea A3m
 simp only[Af,Ag,Aa,Aj,List.length_nil,Nat.zero_add,List.nil_append]
 rw[Vt c A53 A54,R0 c]
 simp only[Ae]
 cases ho:Ci c with
 |false=>exact⟨[],false,rfl,rfl,by simp,.inl rfl⟩
 |true=>
 obtain⟨f1,f2,f3,f4,f5⟩:=Hg ho
 obtain⟨f6,f7,f8⟩:=E8 f3
 simp only[Bool.not_true,An]
 rw[Cg _ zq2,Cg _ zq2,Cg _ zq2,Al (p:=c.2.2.2.2.2.2.2.2.1.length<=4294967296) zq0,Al (p:=c.2.2.2.1.length<=4294967296) zq0,Al (p:=c.2.2.2.2.2.2.2.2.2.2.2.2.2.2.1.length<=4294967296) zq0]
 simp only[Ae,Ba]
 have none: ∃k b,some ((([]:List YB),()),(false,()))=some ((k,()),(b,()))/\some ((([]:List YB),()),(false,()))=some ((k,()),(b,()))/\k.length<=A6 c/\(k.length=0\/k.length=32):=⟨[],false,rfl,rfl,by simp,.inl rfl⟩
 have rest: ∃k b,br (n.1==c.2.2.1) (some ((c.2.2.2.1,()),(true,()))) (br (decide ((c.2.2.2.2.2.2.2.2.2.2.2.2.2.2.1.length:Int)>(0:Int))) (br (n.1==IntKind.i64.wrap (c.2.2.1+(1:Int))) (some ((c.2.2.2.2.2.2.2.2.2.2.2.2.2.2.1,()),(true,()))) (some (([],()),(false,())))) (some (([],()),(false,()))))=some ((k,()),(b,()))/\br (n.1==c.2.2.1) (some ((c.2.2.2.1,()),(true,()))) (br (decide ((c.2.2.2.2.2.2.2.2.2.2.2.2.2.2.1.length:Int)>(0:Int))) (br (n.1==IntKind.i64.wrap (c.2.2.1+(1:Int))) (some ((c.2.2.2.2.2.2.2.2.2.2.2.2.2.2.1,()),(true,()))) (some (([],()),(false,())))) (some (([],()),(false,()))))=some ((k,()),(b,()))/\k.length<=A6 c/\(k.length=0\/k.length=32):=by
  cases (n.1==c.2.2.1)with
  |true=>exact⟨_,true,rfl,rfl,by simp only[A6];omega,.inr f7⟩
  |false=>
   simp only[An]
   cases decide ((c.2.2.2.2.2.2.2.2.2.2.2.2.2.2.1.length:Int)>(0:Int))with
   |false=>exact none
   |true=>
    simp only[A9]
    cases (n.1==IntKind.i64.wrap (c.2.2.1+(1:Int)))with
    |false=>exact none
    |true=>exact⟨_,true,rfl,rfl,by simp only[A6];omega,f5.imp id fun q=>q.2.1⟩
 cases hold:c.2.2.2.2.2.2.2.2.2.2.2.2.1 with
 |false=>exact rest
 |true=>
  simp only[A9]
  obtain⟨v1,v2,v3⟩:=Ak3 f4 hold f6
  cases (n.1==c.2.2.2.2.2.2.2.1)with
  |true=>exact⟨_,true,rfl,rfl,by simp only[A6];omega,.inr (E8 v1).2.1⟩
  |false=>exact rest
def Hm (k s b:List YB):Ay:=((16:Int),(0:Int),(0:Int),[],s,(0:Int),(0:Int),b,k,(0:Int),(0:Int),(0:Int),())
theorem A35 (k s b:List YB) (h1:k.length<=4294967296) (h2:s.length<=4294967296) (h3:b.length<=4294967296):Agu (k,()) (s,()) (b,())=some (Hm k s b):=by
 unfold Agu A0g
 simp (disch:=first|omega|(dsimp only;omega)) only[Ag,Aa,Cg,Ae]
 rfl
theorem Br9 (k s b:List YB) (h1:k.length<=4294967296) (h2:s.length<=4294967296) (h3:b.length<=4294967296):A0r (k,()) (s,()) (b,())=some (Hm k s b):=by
 unfold A0r Bcg
 simp only[Aj,Aa,List.length_nil,Nat.zero_add,List.nil_append]
 rw[Al h1,Al h2,Al h3]
 rfl
theorem A8n:It (List.replicate 32 ((0:Int),())):=⟨rfl,fun q x hx=>by
 rw[List.getElem?_replicate]at hx
 split at hx
 .simp only[Option.some.injEq]at hx;subst hx;exact⟨by decide,by decide⟩
 .cases hx⟩
theorem Bqz (r:Nat):Aak (List.replicate 32 ((0:Int),())) r=false:=by
 unfold Aak
 rw[List.getElem?_replicate]
 split<;>simp
theorem Avi:Ih Acf=true:=by
 unfold Ih
 simp only[Bool.and_eq_true]
 refine⟨by decide,⟨Aed.2 fun q x hx=>by have:=A8n.2 q x hx;omega,by rfl⟩,Ak2.2 fun i hi=>?_,by rfl⟩
 rw[Aeq (w:=Acf) A8n (by show(0:Int)<= -1+1+(i:Nat);omega)]
 exact Bqz _
def Ag5 (n:Int) (k:List YB):YEp:=(n,k,(0:Int),(-1:Int),List.replicate 32 ((0:Int),()),())
theorem Avj {n:Int} {k:List YB} (hn:0<=n/\n<=4294967295) (hk:k.length=32):Fs (Ag5 n k)=true:=by
 unfold Fs
 simp only[Bool.and_eq_true]
 exact⟨Bj.2 hn,by show((k.length:Int)==32)=true;rw[hk];rfl,(show inR 0 0 281474976710656=true by decide),Avi⟩
theorem Avk (n:Int) (k:List YB) (hn:0<=n/\n<=4294967295) (hk:k.length=32):Ol (n,()) (k,())=some (Ag5 n k)/\Fj (n,()) (k,())=some (Ag5 n k):=by
 have q:((k.length:Int) != 32)=false:=by simp[hk]
 have r:inR n 0 4294967295=true:=Bj.2 hn
 unfold Ol Ah7 Fj Ab0
 simp only[Af,Ag,Aa,Aj,Cj,Cq,Ae,Ag2,Ag3,List.nil_append,List.length_nil,Nat.zero_add,r,Bool.not_true,An,q]
 rw[Cg _ zq2,Al zq0]
 exact⟨rfl,rfl⟩
def Aqp (r:Int) (sn k:List YB):Ap:=(r,sn,(0:Int),k,(0:Int),(-1:Int),List.replicate 32 ((0:Int),()),(0:Int),[],(0:Int),(0:Int),[],false,(0:Int),[],())
theorem Ak4 (r:Int) (sn k:List YB) (hr:r=0\/r=1) (hs:sn.length=12) (hk:k.length=32):Ut (r,()) (sn,()) (k,())=some (Aqp r sn k)/\He (r,()) (sn,()) (k,())=some (Aqp r sn k):=by
 obtain⟨e1,e2⟩:=Avk 0 k zq0 hk
 have q:((k.length:Int) != 32)=false:=by simp[hk]
 have q1:((sn.length:Int)==12)=true:=by simp[hs]
 have q2:((sn.length:Int) != 12)=false:=by simp[hs]
 have q3:inR r 0 1=true:=Bj.2 zq0
 unfold Ut Abk He Ua
 simp only[Af,Ag,Aa,Aj,Aaa,Cq,Hr,Ae,Aem,List.nil_append,List.length_nil,Nat.zero_add,q,q1,q2,q3,Bool.not_true,An]
 rw[Cg _ zq2,Al zq0,e1,e2]
 exact⟨rfl,rfl⟩
theorem Ay2 {r:Int} {sn k:List YB} (hr:r=0\/r=1) (hs:sn.length=12) (hk:k.length=32):Ci (Aqp r sn k)=true:=by
 unfold Ci
 simp only[Bool.not_not,Bool.and_eq_true,Bool.or_eq_true,beq_iff_eq]
 refine⟨hr,by show(sn.length:Int)=12;omega,Avj (n:=0) zq0 hk,?_,.inl rfl⟩
 unfold Lr
 rfl
theorem Ais {k l:List YB} (h1:l.length<=100) (h2:k.length<=1048576):(Ge k l).length=32:=by
 unfold Ge Nj
 rw[if_pos ⟨h1,h2⟩]
 exact Ob _ _ h2 zq1
def Btf:List YB:=Kd (Dd [102,105,110,105,115,104])
def Bj3:List YB:=[((114:Int),()),((111:Int),()),((97:Int),()),((109:Int),())]
def Jg (p:List YB):List YB:=bif G6 (p,())then Ge (Hw Bj3 p) Btf else []
theorem Ay3 (p:List YB):Vb (p,())=some (Jg p,()):=by
 unfold Vb Ac1 Abp Abi Jg
 simp only[Af,Ag,Aa,Awo,Ae]
 rw[Amj,Ae,Ae,A00 _ _ zq7,Ae]
 cases G6 (p,())<;>rfl
theorem Bga (p:List YB):Ac9 (p,())=some (Jg p,()):=by
 unfold Ac9 Acq Abn Aa2 Jg
 simp only[Af,Ag,Aa,Aaj,Ae]
 rw[Amk,Ae,Ae,Aql _ _ zq7,Ae]
 cases G6 (p,())<;>rfl
theorem Avl {p:List YB} (h:G6 (p,())=true):(Jg p).length=32:=by
 unfold Jg
 rw[h]
 have hl:(Hw Bj3 p).length<=32:=by rcases Aqf Bj3 p with q|q<;>omega
 exact Ais zq7 zq0
def Nl (id:Int) (cn sn:List YB) (tick:Int) (ck:List YB):Bool:=inR id 1 9 && (((cn.length:Int)==12) && (((sn.length:Int)==12) && (inR tick 0 1000000 && ((ck.length:Int)==16))))
def Hu (id:Int) (cn sn:List YB) (tick:Int) (ck:List YB):List YB:=bif Nl id cn sn tick ck then((102:Int),())::(IntKind.u8.wrap id,())::(cn++(sn++(Fh tick 4 4++ck)))else []
theorem Ay4 (id:Int) (cn sn:List YB) (tick:Int) (ck:List YB):Vc (id,()) (cn,()) (sn,()) (tick,()) (ck,())=some (Hu id cn sn tick ck,()):=by
 unfold Vc Ac3 Hu Nl
 simp only[Af,Ag,Aa,Cj,Hr,Ae,bne]
 cases inR id 1 9 with
 |false=>rfl
 |true=>
  cases h1:((cn.length:Int)==12)with
  |false=>rfl
  |true=>
   cases h2:((sn.length:Int)==12)with
   |false=>rfl
   |true=>
    cases inR tick 0 1000000 with
    |false=>rfl
    |true=>
     cases h3:((ck.length:Int)==16)with
     |false=>rfl
     |true=>
      have k1:(cn.length:Int)=12:=by simpa using h1
      have k2:(sn.length:Int)=12:=by simpa using h2
      have k3:(ck.length:Int)=16:=by simpa using h3
      simp only[Bool.not_true,An,Bool.and_true,cond_true]
      rw[Oa _ _ zq3,Ae,Hn _ zq6 zq3,Ae]
      simp[cat]
theorem Bgb (id:Int) (cn sn:List YB) (tick:Int) (ck:List YB):Ada (id,()) (cn,()) (sn,()) (tick,()) (ck,())=some (Hu id cn sn tick ck,()):=by
 unfold Ada Acr Hu Nl
 simp only[Af,Ag,Aa,Aj,Cq,Ae,bne]
 cases inR id 1 9 with
 |false=>rfl
 |true=>
  cases h1:((cn.length:Int)==12)with
  |false=>rfl
  |true=>
   cases h2:((sn.length:Int)==12)with
   |false=>rfl
   |true=>
    cases inR tick 0 1000000 with
    |false=>rfl
    |true=>
     cases h3:((ck.length:Int)==16)with
     |false=>rfl
     |true=>
      have k1:(cn.length:Int)=12:=by simpa using h1
      have k2:(sn.length:Int)=12:=by simpa using h2
      have k3:(ck.length:Int)=16:=by simpa using h3
      simp only[Bool.not_true,An,Bool.and_true,cond_true]
      rw[Al zq1,Ba,Al zq1,Ba,K8 _ _ zq1,Ae]
      simp only
      rw[Al zq4,Ba]
      simp
theorem Asf {id:Int} {cn sn:List YB} {tick:Int} {ck:List YB}:(Hu id cn sn tick ck).length=bif Nl id cn sn tick ck then 46 else 0:=by
 unfold Hu
 cases h:Nl id cn sn tick ck with
 |false=>rfl
 |true=>
  unfold Nl at h
  simp only[Bool.and_eq_true,beq_iff_eq]at h
  simp[Gb];omega
def Ux (p:List YB) (id:Int) (cn sn:List YB) (tick:Int) (ck:List YB):List YB:=if (Jg p).length=0\/(Hu id cn sn tick ck).length=0 then []else T4 (Jg p) (Hu id cn sn tick ck)
theorem A8o (p:List YB) (id:Int) (cn sn:List YB) (tick:Int) (ck:List YB):(Ux p id cn sn tick ck).length<=16:=by
 unfold Ux
 split
 .simp
 .exact Bhl _ _
theorem Bhs (p:List YB) (id:Int) (cn sn:List YB) (tick:Int) (ck:List YB):Aie (p,()) (id,()) (cn,()) (sn,()) (tick,()) (ck,())=some (Ux p id cn sn tick ck,()):=by
 unfold Aie Aub Ux
 simp only[Af,Ag,Aa,Ay3,Ay4,Bap,Ae]
 by_cases h1:(Jg p).length=0
 .rw[Ei (by simp[h1]),if_pos (.inl h1)]
 .rw[C6 (by simp;exact fun e=>h1 (by simp[e]))]
  by_cases h2:(Hu id cn sn tick ck).length=0
  .rw[Ei (by simp[h2]),if_pos (.inr h2)]
  .rw[C6 (by simp;exact fun e=>h2 (by simp[e])),if_neg (by rintro(q|q);exact h1 q;exact h2 q)]
theorem A6d (p:List YB) (id:Int) (cn sn:List YB) (tick:Int) (ck:List YB):Ab8 (p,()) (id,()) (cn,()) (sn,()) (tick,()) (ck,())=some (Ux p id cn sn tick ck,()):=by
 unfold Ab8 As7 Ux
 simp only[Af,Ag,Aa,Bga,Bgb,Baq,Ae]
 by_cases h1:(Jg p).length=0
 .rw[Ei (by simp[h1]),if_pos (.inl h1)]
 .rw[C6 (by simp;exact fun e=>h1 (by simp[e]))]
  by_cases h2:(Hu id cn sn tick ck).length=0
  .rw[Ei (by simp[h2]),if_pos (.inr h2)]
  .rw[C6 (by simp;exact fun e=>h2 (by simp[e])),if_neg (by rintro(q|q);exact h1 q;exact h2 q)]
theorem Bmw {p:List YB} {id:Int} {cn sn:List YB} {tick:Int} {ck:List YB} (h1:G6 (p,())=true) (h2:Nl id cn sn tick ck=true):(Ux p id cn sn tick ck).length=16:=by
 have k1:=Avl h1
 have k2:=Asf (id:=id) (cn:=cn) (sn:=sn) (tick:=tick) (ck:=ck)
 rw[h2]at k2
 have k2:(Hu id cn sn tick ck).length=46:=k2
 unfold Ux
 rw[if_neg zq0]
 exact Bhr zq0 zq0
theorem Avm {f:Aq} (h:B6 f=true) (hk:f.1=2):f.2.2.1.length=12/\f.2.2.2.1.length=12/\(0<=f.2.2.2.2.1/\f.2.2.2.2.1<=1000000)/\f.2.2.2.2.2.1.length=16/\f.2.1=0/\f.2.2.2.2.2.2.1.length=0/\f.2.2.2.2.2.2.2.1=0/\f.2.2.2.2.2.2.2.2.1=0/\f.2.2.2.2.2.2.2.2.2.1.length=0/\f.2.2.2.2.2.2.2.2.2.2.1.length=0:=by
 unfold B6 at h
 rw[hk]at h
 simp only[show inR 2 4 8=false by decide,cond_false,show((2:Int)==1)=false by decide,show((2:Int)==2)=true by decide,cond_true,Bool.and_eq_true,beq_iff_eq,Bj]at h
 omega
def Aqq (p:List YB) (id:Int) (f:Aq):Aq:=((3:Int),id,f.2.2.1,f.2.2.2.1,f.2.2.2.2.1,f.2.2.2.2.2.1,Ux p id f.2.2.1 f.2.2.2.1 f.2.2.2.2.1 f.2.2.2.2.2.1,(0:Int),(0:Int),[],[],())
theorem Bae (p:List YB) (id:Int) (f:Aq) (h1:G6 (p,())=true) (h2:1<=id/\id<=9) (h3:B6 f=true) (h4:f.1=2):Au4 (p,()) (id,()) f=some (Aqq p id f,(true,()))/\Hd (p,()) (id,()) f=some (Aqq p id f,(true,()))/\B6 (Aqq p id f)=true:=by
 obtain⟨a1,a2,a3,a4,a5,a6,a7,a8,a9,a10⟩:=Avm h3 h4
 have hp:Nl id f.2.2.1 f.2.2.2.1 f.2.2.2.2.1 f.2.2.2.2.2.1=true:=by
  unfold Nl
  simp only[Bool.and_eq_true,beq_iff_eq,Bj]
  omega
 have h16:=Bmw h1 hp
 refine⟨?_,?_,?_⟩
 .unfold Au4 Au3
  simp only[Af,Ag,Aa,Ms,Bhs,Ae,h3,h4,Bool.not_true,An]
  rw[C6 (by rfl),C6 (by simp;intro e;rw[e]at h16;cases h16)]
  simp (disch:=first|omega|(dsimp only;omega)) only[Cg,Ae]
  rfl
 .unfold Hd Re
  simp only[Af,Ag,Aa,Jc,A6d,Ae,h3,h4,Bool.not_true,An]
  rw[C6 (by rfl),C6 (by simp;intro e;rw[e]at h16;cases h16),Aqn f (by simp only[Ar];omega)]
  simp only[Ae]
  rw[List.eq_nil_of_length_eq_zero a9,List.eq_nil_of_length_eq_zero a10,a7,a8]
  rfl
 .unfold B6 Aqq
  simp only[show inR 3 4 8=false by decide,cond_false,show((3:Int)==1)=false by decide,show((3:Int)==2)=false by decide,show((3:Int)==3)=true by decide,List.length_nil]
  simp only[Bool.and_eq_true,beq_iff_eq,Bj,h16,true_and]
  omega
def Awr (l:List YB) (n:Int):Bool:=((l.length:Int)==0) || ((l.length:Int)==n)
def Ln (n:Ay):Bool:=inR n.1 1 17 && (inR n.2.1 0 9 && (inR n.2.2.1 0 1 && (inR n.2.2.2.2.2.1 0 4294967295 && (inR n.2.2.2.2.2.2.1 0 281474976710655 && (inR n.2.2.2.2.2.2.2.2.2.2.2.1 0 1000000 &&
 (Awr n.2.2.2.1 12 && (Awr n.2.2.2.2.1 12 && (decide ((n.2.2.2.2.2.2.2.1.length:Int)<=100) && (Awr n.2.2.2.2.2.2.2.2.1 32 && Cn (n.2.2.2.2.2.2.2.2.2.1,n.2.2.2.2.2.2.2.2.2.2.1,()))))))))))
theorem Mw {n:Ay}:Ln n=true↔(1<=n.1/\n.1<=17)/\(0<=n.2.1/\n.2.1<=9)/\(0<=n.2.2.1/\n.2.2.1<=1)/\(0<=n.2.2.2.2.2.1/\n.2.2.2.2.2.1<=4294967295)/\(0<=n.2.2.2.2.2.2.1/\n.2.2.2.2.2.2.1<=281474976710655)/\(0<=n.2.2.2.2.2.2.2.2.2.2.2.1/\n.2.2.2.2.2.2.2.2.2.2.2.1<=1000000)/\
  (n.2.2.2.1.length=0\/n.2.2.2.1.length=12)/\(n.2.2.2.2.1.length=0\/n.2.2.2.2.1.length=12)/\n.2.2.2.2.2.2.2.1.length<=100/\(n.2.2.2.2.2.2.2.2.1.length=0\/n.2.2.2.2.2.2.2.2.1.length=32)/\Cn (n.2.2.2.2.2.2.2.2.2.1,n.2.2.2.2.2.2.2.2.2.2.1,())=true:=by
 unfold Ln Awr
 simp only[Bool.and_eq_true,Bool.or_eq_true,beq_iff_eq,Bj,decide_eq_true_eq]
 constructor
 .rintro⟨a,b,c,d,e,f,g,h,i,j,k⟩
  exact⟨a,b,c,d,e,f,by omega,by omega,by omega,by omega,k⟩
 .rintro⟨a,b,c,d,e,f,g,h,i,j,k⟩
  exact⟨a,b,c,d,e,f,by omega,by omega,by omega,by omega,k⟩
theorem A36:Cn ((0:Int),(0:Int),())=true:=by decide
theorem Uy (r:Int) (f:Aq):(Dy r f).length<=65:=by
 have hh:=Oo r f.2.2.2.1 f.2.2.2.2.2.2.2.1 f.2.2.2.2.2.2.2.2.1
 have hle:(Eg r f.2.2.2.1 f.2.2.2.2.2.2.2.1 f.2.2.2.2.2.2.2.2.1).length<=23:=by rw[hh];cases Hs r f.2.2.2.1 f.2.2.2.2.2.2.2.1 f.2.2.2.2.2.2.2.2.1<;>simp
 unfold Dy
 cases h:(inR r 0 1 && (B6 f && inR f.1 4 8))with
 |false=>simp
 |true=>
  simp only[Bool.and_eq_true]at h
  have:=Aef h.2.1 h.2.2
  simp;omega
theorem Bde {k b:List YB} (h1:k.length=0\/k.length=32) (h2:b.length<=100):Ln (Ls k b)=true:=by
 rw[Mw]
 simp only[Ls,List.length_nil]
 exact⟨by omega,by omega,by omega,by omega,by omega,by omega,.inl trivial,.inl trivial,h2,h1,A36⟩
theorem A02 {k s b:List YB} (h1:k.length=0\/k.length=32) (h2:s.length=0\/s.length=12) (h3:b.length<=100):Ln (Hm k s b)=true:=by
 rw[Mw]
 simp only[Hm,List.length_nil]
 exact⟨by omega,by omega,by omega,by omega,by omega,by omega,.inl trivial,h2,h3,h1,A36⟩
theorem Aqr {c:Ap} {f:Aq} (h:Ci c=true):Ln (Gu c f)=true:=
 Bde (.inr (E8 (Hg h).2.2.1).2.1) (Nat.le_trans (Uy _ _) zq0)
def Id (l:List Ay):Prop:=∀n∈l,Ln n=true
theorem Avn {p a b:List YB} (k:G6 (p,())=true) (h1:a.length=12) (h2:b.length=12):(Lm p a b 0).length=32:=by
 have hroot:(K9 p a b).length=32:=by
  unfold K9
  have hp:inR (p.length:Int) 1 32=true:=k
  rw[if_pos ⟨hp,h1,h2⟩]
  have:=Bj.1 hp
  exact Ob _ _ zq1 zq0
 have hfirst:(Is (K9 p a b)).length=32:=by
  unfold Is
  rw[if_pos hroot]
  exact Ais zq7 zq0
 unfold Lm
 rw[if_neg zq0]
 unfold Amm
 rw[if_pos zq0]
 exact hfirst
def A03 (a b:Int) (x:A8):Prop:=Cn (x.1,x.2.1,())=true/\eqA x.1 x.2.1 a b=false/\x.2.2.1.length=12/\(0<=x.2.2.2.1/\x.2.2.2.1<=1000006)
theorem Hy {a b:Int} {l:List A8}:D4 (a,b,l,())=true↔Cn (a,b,())=true/\l.length<=3/\(∀x∈l,A03 a b x)/\l.Pairwise (fun y x=>eqA y.1 y.2.1 x.1 x.2.1=false):=by
 have key:D3 (Tk a b l) l=true↔(∀x∈l,A03 a b x)/\l.Pairwise (fun y x=>eqA y.1 y.2.1 x.1 x.2.1=false):=by
  rw[G7,List.pairwise_iff_getElem]
  unfold Tk A03
  simp only[Bool.not_eq_false',Bool.and_eq_true,Bool.not_eq_true',beq_iff_eq,Bj,G7]
  constructor
  .intro h
   refine⟨fun x hx=>?_,fun i j hi hj hij=>?_⟩
   .obtain⟨j,hj⟩:=List.getElem?_of_mem hx
    obtain⟨h1,h2,h3,h4,_⟩:=h j x hj
    exact⟨h1,h2,by omega,h4⟩
   .obtain⟨_,_,_,_,h5⟩:=h j l[j] (List.getElem?_eq_getElem hj)
    exact h5 i l[i] (by rw[List.getElem?_take,if_pos hij];exact List.getElem?_eq_getElem hi)
  .rintro⟨h1,h2⟩ j x hj
   obtain⟨g1,g2,g3,g4⟩:=h1 x (List.mem_of_getElem? hj)
   refine⟨g1,g2,by omega,g4,fun i y hi=>?_⟩
   rw[List.getElem?_take]at hi
   split at hi
   .rename_i hlt
    obtain⟨k1,k2⟩:=List.getElem?_eq_some_iff.1 hi
    obtain⟨k3,k4⟩:=List.getElem?_eq_some_iff.1 hj
    have:=h2 i j k1 k3 hlt
    rw[k2,k4]at this
    exact this
   .cases hi
 unfold D4
 simp only[Bool.and_eq_true,Bool.not_eq_true',decide_eq_false_iff_not,key]
 constructor
 .rintro⟨h1,h2,h3⟩;exact⟨h1,by omega,h3⟩
 .rintro⟨h1,h2,h3⟩;exact⟨h1,by omega,h3⟩
def atA (a b:Int) (x:A8):Bool:=eqA x.1 x.2.1 a b
theorem Amo {a b c d:Int}:eqA a b c d=true↔a=c/\b=d:=by unfold eqA;simp
theorem Ag6 (p:Bm) (a:A7) (h:p.2.2.1.length<=4294967296):Ad6 p a=some (Lv (atA a.1 a.2.1) p.2.2.1,()):=by
 obtain⟨b,d,l,⟨⟩⟩:=p
 simp only at h
 have hl:=Om (B:=Ro) l (fun i=>(l,(l.length:Int),(i:Int),a.1,a.2.1,())) (fun _ x=>atA a.1 a.2.1 x) (fun i=>((i:Int),())) ()
  (fun i x hi hx=>by
   unfold Ro
   simp (disch:=omega) only[Af,Ag,Aa,Dj hi,A9,Ca hx,Ae,w64]
   rfl)
  (by unfold Ro;simp only[Af,Aa,Dk,An])
 unfold Ad6 Apj
 simp only[Ag,Aa,E0]
 rw[show((0:Int))=((0:Nat):Int)from rfl,hl]
 exact Au6 _ _
theorem Bmx {p:Bm} {n:Int} (h:D4 p=true):D4 (El p n)=true:=by
 obtain⟨a,b,l,⟨⟩⟩:=p
 obtain⟨h1,h2,h3,h4⟩:=Hy.1 h
 refine Hy.2 ⟨h1,?_,fun x hx=>h3 x ((List.mem_filter.1 hx).1),h4.filter _⟩
 have:=List.length_filter_le (Mv n) l
 exact Nat.le_trans this h2
def OfH (p:Bm) (n:Int) (p':Bm) (b:Bool):Prop:=(b=false->p'=p)/\Bb p'<=Bb p+50/\(b=true->D4 p=true/\D4 p'=true)
theorem Iu (p:Bm) (n:YI) (a:A7) (d:YBs) (h:Bb p<=4294967296): ∃p' b,Di p n a d=some (p',(b,()))/\Em p n a d=some (p',(b,()))/\OfH p n.1 p' b:=by
 have h':=h
 have hl0:p.2.2.1.length<=Bb p:=by simp only[Bb];omega
 obtain⟨d,⟨⟩⟩:=d
 have nope: ∃p' b,some (p,(false,()))=some (p',(b,()))/\some (p,(false,()))=some (p',(b,()))/\OfH p n.1 p' b:=⟨p,false,rfl,rfl,fun _=>rfl,by omega,fun h=>by cases h⟩
 unfold Di Ab6 Em Ate
 simp only[Af,Ag,Aa,Aj,E0]
 rw[V8 p zq0,Aim p zq0,Cj,Cq,Iq,Ir,Hr,Ni p h,Wa p h,Vu p n h,Bjz p n h]
 simp only[Ae,bne]
 cases ho:D4 p with
 |false=>exact nope
 |true=>
 simp only[Bool.not_true,An]
 cases hn:inR n.1 0 1000000 with
 |false=>exact nope
 |true=>
 simp only[Bool.not_true,An]
 cases ha:Cn a with
 |false=>exact nope
 |true=>
 simp only[Bool.not_true,An]
 cases hd:((d.length:Int)==12)with
 |false=>exact nope
 |true=>
 simp only[Bool.not_true,An]
 cases hat:(and (a.1==p.1) (and (a.2.1==p.2.1) true))with
 |true=>exact nope
 |false=>
 simp only[An]
 have ht:Sb p n.1=El p n.1:=by unfold Sb;rw[ho,hn];rfl
 rw[ht]
 have hd':d.length=12:=by have:=eq_of_beq hd;omega
 have hn':=Bj.1 hn
 have htn:=Ay0 p n.1
 have hto:=Bmx (n:=n.1) ho
 have htl:(El p n.1).2.2.1.length<=Bb (El p n.1):=by simp only[Bb];omega
 have h1:(El p n.1).1=p.1:=rfl
 have h2:(El p n.1).2.1=p.2.1:=rfl
 rw[Ag6 _ _ zq0]
 simp only[Ae]
 have hs:=Om (B:=Qf) (El p n.1).2.2.1 (fun i=>(n.1,d,(i:Int),p.1,p.2.1,p.2.2.1,a.1,a.2.1,(0:Int),(0:Int),([]:List A8),(El p n.1).1,(El p n.1).2.1,(El p n.1).2.2.1,())) (fun _ x=>atA a.1 a.2.1 x) (fun _=>(false,p.1,p.2.1,p.2.2.1,())) (n.1,d,p.1,p.2.1,p.2.2.1,a.1,a.2.1,(0:Int),(0:Int),([]:List A8),(El p n.1).1,(El p n.1).2.1,(El p n.1).2.2.1,())
  (fun i x hi hx=>by
   unfold Qf
   simp (disch:=omega) only[Af,Ag,Aa,Dj hi,A9,Ca hx,Ae,w64]
   rw[show Ea (p.1,p.2.1,p.2.2.1,())=some p from Wa p h]
   rfl)
  (by unfold Qf;simp only[Af,Aa,Dk,An])
 rw[show Ax Qf (n.1,d,(0:Int),p.1,p.2.1,p.2.2.1,a.1,a.2.1,(0:Int),(0:Int),([]:List A8),(El p n.1).1,(El p n.1).2.1,(El p n.1).2.2.1,())=_ from hs]
 simp only[Ae]
 unfold Lv
 cases hf:H8 (fun _ x=>atA a.1 a.2.1 x) (El p n.1).2.2.1 0 with
 |some k=>
  simp only[Option.elim,Bsa]
  simp only[show((k:Int)≥0)=True from eq_true zq0,decide_true,A9]
  exact nope
 |none=>
  simp only[Option.elim,A0u]
  simp only[show((-1:Int)≥0)=False from eq_false zq0,decide_false,An]
  rw[show Ea (p.1,p.2.1,p.2.2.1,())=some p from Wa p h]
  simp only[Ae]
  cases hk:(((El p n.1).2.2.1.length:Int)==3)with
  |true=>exact nope
  |false=>
  simp only[An]
  have hp: ∃l,El p n.1=(p.1,p.2.1,l,()):=⟨_,rfl⟩
  obtain⟨l,hl⟩:=hp
  rw[hl]at hto hf hk htn htl ⊢
  obtain⟨q1,q2,q3,q4⟩:=Hy.1 hto
  simp only at hf hk htl ⊢
  have hk': ¬(l.length:Int)=3:=by simpa using hk
  rw[Cg _ zq2]
  simp only[Ae,List.nil_append,List.length_nil,Nat.zero_add,List.length_cons]
  rw[Al zq0,Al zq0,Ba,Ba,w64 zq0]
  refine⟨_,true,rfl,rfl,fun h=>(by cases h),?_,fun _=>⟨ho,Hy.2 ⟨q1,?_,?_,?_⟩⟩⟩
  .simp only[Bb]at htn ⊢
   simp only[Bb,List.length_append,List.length_cons,List.length_nil,Sa,Bu,Fy]
   omega
  .simp only[List.length_append,List.length_cons,List.length_nil];omega
  .intro x hx
   rcases List.mem_append.1 hx with hx|hx
   .exact q3 x hx
   .simp only[List.mem_singleton]at hx
    subst hx
    exact⟨ha,hat,hd',by dsimp only;omega⟩
  .rw[List.pairwise_append]
   refine⟨q4,List.pairwise_singleton _ _,fun x hx y hy=>?_⟩
   simp only[List.mem_singleton]at hy
   subst hy
   obtain⟨j,hj⟩:=List.getElem?_of_mem hx
   have:=Acb.1 hf j x hj
   exact this
theorem Bdf {E:Type} {q:E->Bool} {l:List E} {i:Nat} {x:E} (hx:l[i]? =some x) (hq:q x=false) (h: ∀j y,j≠i->l[j]? =some y->q y=true):l.filter q=l.take i++l.drop (i+1):=by
 obtain⟨hi,he⟩:=List.getElem?_eq_some_iff.1 hx
 have e:l=l.take i++(l[i]::l.drop (i+1)):=by rw[<-List.drop_eq_getElem_cons hi,List.take_append_drop]
 have h1:(l.take i).filter q=l.take i:=by
  rw[List.filter_eq_self]
  intro y hy
  obtain⟨j,hj⟩:=List.getElem?_of_mem hy
  rw[List.getElem?_take]at hj
  split at hj
  .exact h j y zq0 hj
  .cases hj
 have h2:(l.drop (i+1)).filter q=l.drop (i+1):=by
  rw[List.filter_eq_self]
  intro y hy
  obtain⟨j,hj⟩:=List.getElem?_of_mem hy
  rw[List.getElem?_drop]at hj
  exact h (i+1+j) y zq0 hj
 conv=>lhs;rw[e]
 rw[List.filter_append,List.filter_cons_of_neg (by rw[he,hq];simp),h1,h2]
theorem Avo (p:Bm) (n:YI) (a:A7) (d:YBs) (h:Bb p<=4294967296): ∃p' b,Pb p n a d=some (p',(b,()))/\Aeb p n a d=some (p',(b,()))/\OfH p n.1 p' b:=by
 have h':=h
 have hl0:p.2.2.1.length<=Bb p:=by simp only[Bb];omega
 obtain⟨d,⟨⟩⟩:=d
 have nope: ∃p' b,some (p,(false,()))=some (p',(b,()))/\some (p,(false,()))=some (p',(b,()))/\OfH p n.1 p' b:=⟨p,false,rfl,rfl,fun _=>rfl,by omega,fun h=>by cases h⟩
 unfold Pb Adv Aeb A3p A3o A3n
 simp only[Af,Ag,Aa,Aj,E0]
 rw[V8 p zq0,Aim p zq0,Cj,Cq,Ni p h,Wa p h,Ag6 p a zq0]
 simp only[Ae,I3,Z9]
 cases ho:D4 p with
 |false=>exact nope
 |true=>
 obtain⟨a1,a2,l,⟨⟩⟩:=p
 obtain⟨q1,q2,q3,q4⟩:=Hy.1 ho
 simp only[Bb]at h' hl0
 simp only[Bool.not_true,An]
 have hs:=Om (B:=Rx) l (fun i=>((i:Int),a1,a2,l,a.1,a.2.1,(0:Int),(0:Int),([]:List YB),(0:Int),())) (fun _ x=>atA a.1 a.2.1 x) (fun i=>(true,(l[i]?.getD ((0:Int),(0:Int),[],(0:Int),())).1,(l[i]?.getD ((0:Int),(0:Int),[],(0:Int),())).2.1,(l[i]?.getD ((0:Int),(0:Int),[],(0:Int),())).2.2.1,(l[i]?.getD ((0:Int),(0:Int),[],(0:Int),())).2.2.2.1,())) ((0:Int),(0:Int),([]:List YB),(0:Int),())
  (fun i x hi hx=>by
   have hnx:=Mg (f:=Fy) hx
   unfold Rx
   simp (disch:=omega) only[Af,Ag,Aa,Dj hi,A9,Ca hx,Ae,w64]
   rw[Ain _ zq0,hx]
   rfl)
  (by unfold Rx;simp only[Af,Aa,Dk,An])
 rw[show Ax Rx ((0:Int),a1,a2,l,a.1,a.2.1,(0:Int),(0:Int),([]:List YB),(0:Int),())=_ from hs]
 simp only[Ae]
 unfold Lv
 cases hf:H8 (fun _ x=>atA a.1 a.2.1 x) l 0 with
 |none=>
  simp only[Option.elim,A0u,Ae]
  cases inR n.1 0 1000000 with
  |false=>exact nope
  |true=>exact nope
 |some k=>
  obtain⟨j,x,hkj,hx,hq,hbef⟩:=R8 hf
  rw[Nat.zero_add]at hkj
  subst hkj
  have hxi:=(List.getElem?_eq_some_iff.1 hx).1
  have hxm:=List.mem_of_getElem? hx
  simp only[Option.elim,Bsa,Ae,hx,Option.getD_some,Bool.not_true,An]
  cases hn:inR n.1 0 1000000 with
  |false=>exact nope
  |true=>
  simp only[Bool.not_true,An]
  simp only[show((k:Int)<0)=False from eq_false zq0,decide_false,An,Ca hx,Ae]
  rw[show Dx x.2.2.1 d=Dx d x.2.2.1 by unfold Dx;exact decide_eq_decide.2 ⟨Eq.symm,Eq.symm⟩]
  cases hsd:Dx d x.2.2.1 with
  |false=>exact nope
  |true=>
  simp only[Bool.not_true,An]
  cases hu:decide (n.1>x.2.2.2.1)with
  |true=>exact nope
  |false=>
  simp only[An]
  have hother: ∀j y,j≠k->l[j]? =some y->(!atA a.1 a.2.1 y)=true:=by
   intro j y hj hy
   rw[Bool.not_eq_true']
   have e:=Amo.1 hq
   obtain⟨k1,k2⟩:=List.getElem?_eq_some_iff.1 hy
   obtain⟨k3,k4⟩:=List.getElem?_eq_some_iff.1 hx
   rw[List.pairwise_iff_getElem]at q4
   rcases Nat.lt_or_gt_of_ne hj with hlt|hgt
   .have:=hbef j y hlt hy
    exact this
   .have:=q4 k j k3 k1 hgt
    rw[k4,k2]at this
    cases hy':atA a.1 a.2.1 y with
    |false=>rfl
    |true=>
     have e2:=Amo.1 hy'
     rw[Amo.2 ⟨e.1.trans e2.1.symm,e.2.trans e2.2.symm⟩]at this
     cases this
  have hsp:=Bdf hx (q:=fun y=> !atA a.1 a.2.1 y) (by show(!atA a.1 a.2.1 x)=false;rw[show atA a.1 a.2.1 x=true from hq];rfl) hother
  have hl:=C0 (B:=Ry) l.length (fun i=>((i:Int),a1,a2,l,a.1,a.2.1,(0:Int),(0:Int),([]:List A8),a.1,a.2.1,(l.take i).filter (fun y=> !atA a.1 a.2.1 y),())) ((0:Int),(0:Int),([]:List A8),a.1,a.2.1,l.filter (fun y=> !atA a.1 a.2.1 y),())
   (fun i hi=>by
    have hx:=List.getElem?_eq_getElem hi
    have hle:=Avf (p:=fun y=> !atA a.1 a.2.1 y) (l:=l) (i:=i)
    have hs:=Akx (p:=fun y=> !atA a.1 a.2.1 y) hx
    have hn:=Mg (f:=Fy) hx
    unfold Ry
    simp only[Af,Ag,Aa,Aj,Dj hi,A9,Ca hx,Ae]
    rw[w64 zq0,hs,Ain _ zq0]
    simp only[Ae]
    have hp:(!atA a.1 a.2.1 l[i])= !(and (l[i].1==a.1) (and (l[i].2.1==a.2.1) true)):=rfl
    rw[hp]
    cases (!(and (l[i].1==a.1) (and (l[i].2.1==a.2.1) true)))with
    |false=>simp[An]
    |true=>
     simp only[A9,cond_true]
     rw[Al zq1,Ba]
     rfl)
   (by unfold Ry;simp only[Af,Aa,Dk,An,List.take_length])
  rw[show Ax Ry ((0:Int),a1,a2,l,a.1,a.2.1,(0:Int),(0:Int),([]:List A8),a.1,a.2.1,([]:List A8),())=_ from hl]
  simp only[Ae]
  have w1:IntKind.i64.wrap ((k:Int)+1)=(k:Int)+1:=w64 zq0
  have w2:(((l.length:Nat):Int)).toNat=l.length:=by omega
  have w3:((k:Nat):Int).toNat=k:=by omega
  have w4:(((k:Nat):Int)+1).toNat=k+1:=by omega
  have w5:(l.take k).length+(l.drop (k+1)).length<=4294967296:=by simp only[List.length_take,List.length_drop];omega
  have w6:Nat.ble (l.take k).length (k+1)=true:=Nat.ble_eq_true_of_le (by simp only[List.length_take];omega)
  have w7:Nat.blt 0 l.length=true:=Nat.ble_eq_true_of_le zq0
  simp only[w1,hsp,show((0:Int)<=(k:Int))=True from eq_true zq0,show((k:Int)<=(l.length:Int))=True from eq_true zq0,show((0:Int)<=(k:Int)+1)=True from eq_true zq0,show((k:Int)+1<=(l.length:Int))=True from eq_true zq0,show((l.length:Int)<=(l.length:Int))=True from eq_true zq0,decide_true,Ba,w2,w3,w4,Int.toNat_zero,List.drop_zero,List.take_length,eq_true w5,w6,w7]
  rw[<-hsp]
  have e:=Amo.1 hq
  refine⟨_,true,rfl,rfl,fun h=>(by cases h),?_,fun _=>⟨ho,Hy.2 ⟨?_,?_,?_,q4.filter _⟩⟩⟩
  .have h1:=List.length_filter_le (fun y=> !atA a.1 a.2.1 y) l
   have h2:=Aky (f:=Fy) (p:=fun y=> !atA a.1 a.2.1 y) (l:=l)
   simp only[Bb];omega
  .have:=(q3 x hxm).1
   rw[e.1,e.2]at this
   exact this
  .have h1:=List.length_filter_le (fun y=> !atA a.1 a.2.1 y) l
   omega
  .intro y hy
   obtain⟨m1,m2⟩:=List.mem_filter.1 hy
   obtain⟨g1,g2,g3,g4⟩:=q3 y m1
   exact⟨g1,by have:atA a.1 a.2.1 y=false:=(by simpa using m2);exact this,g3,g4⟩
def Amp (c:Ap) (e:YEp):Ap:=(c.1,c.2.1,e.1,e.2.1,e.2.2.1,e.2.2.2.1,e.2.2.2.2.1,c.2.2.1,c.2.2.2.1,c.2.2.2.2.1,c.2.2.2.2.2.1,c.2.2.2.2.2.2.1,true,(-1:Int),c.2.2.2.2.2.2.2.2.2.2.2.2.2.2.1,())
theorem Bmy {c:Ap} {e:YEp} (h:Ci c=true) (hr:c.1=1) (he:Fs e=true) (h1:e.1=c.2.2.1+1):Ci (Amp c e)=true:=by
 obtain⟨f1,f2,f3,f4,f5⟩:=Hg h
 have f6:=(E8 f3).1
 have f7:=(E8 he).1
 unfold Ci at h ⊢
 simp only[Bool.not_not,Bool.and_eq_true]at h ⊢
 refine⟨h.1,h.2.1,he,?_,?_⟩
 .unfold Lr
  have hh:Xr (Amp c e)=true:=rfl
  rw[hh]
  simp only[Bool.not_true,cond_false,Bool.not_not,Bool.and_eq_true,Bool.or_eq_true,Bool.not_eq_true',bne_eq_false_iff_eq]
  refine⟨f3,?_,.inr ⟨rfl,by show(c.1==(1:Int))=true;rw[hr];rfl⟩⟩
  show c.2.2.1=IntKind.i64.wrap (e.1-1)
  have f6':0<=c.2.2.1/\c.2.2.1<=4294967295:=f6
  rw[w64 zq0];omega
 .rcases f5 with f5|f5
  .have:(((J4 (Amp c e)).length:Int)==0)=true:=by
    have e1:J4 (Amp c e)=c.2.2.2.2.2.2.2.2.2.2.2.2.2.2.1:=rfl
    rw[e1,f5];rfl
   rw[this];rfl
  .omega
def TuH (c:Ap) (c':Ap) (b:Bool):Prop:=(b=false->c'=c)/\A6 c'<=A6 c+200/\(b=true->Ci c=true/\c.1=1/\Ci c'=true/\c'.1=c.1/\c'.2.1=c.2.1)
theorem Bq0 (c:Ap) (h:A6 c<=67000000): ∃c' b,A0o c=some (c',(b,()))/\A0s c=some (c',(b,()))/\TuH c c' b:=by
 have nope: ∃c' b,some (c,(false,()))=some (c',(b,()))/\some (c,(false,()))=some (c',(b,()))/\TuH c c' b:=⟨c,false,rfl,rfl,fun _=>rfl,by omega,fun h=>by cases h⟩
 have hc:=h
 simp only[A6]at hc
 unfold A0o A0i A0s Bch
 simp only[Af,Ag,Aa]
 rw[Tn c zq0,R9 c zq0,Vt c A53 A54,R0 c,A8g,Aip]
 simp only[Ae]
 cases ho:Ci c with
 |false=>exact nope
 |true=>
 simp only[Bool.not_true,An]
 cases hr:(c.1==(1:Int))with
 |false=>rw[show(c.1 != (1:Int))=true by unfold bne;rw[hr];rfl];exact nope
 |true=>
 rw[show(c.1 != (1:Int))=false by unfold bne;rw[hr];rfl,An,An]
 cases hm:(c.2.2.1==(4294967295:Int))with
 |true=>exact nope
 |false=>
 simp only[An]
 obtain⟨f1,f2,f3,f4,f5⟩:=Hg ho
 have f6:=(E8 f3).1
 have f6:0<=c.2.2.1/\c.2.2.1<=4294967295:=f6
 have f7:c.2.2.2.1.length=32:=(E8 f3).2.1
 have hm':c.2.2.1≠4294967295:=by simpa using hm
 have hk:(Ge c.2.2.2.1 P3).length=32:=Ais zq7 zq0
 rw[w64 zq0]
 obtain⟨n1,n2⟩:=Avk (c.2.2.1+1) (Ge c.2.2.2.1 P3) zq0 hk
 rw[n1,n2]
 refine⟨Amp c (Ag5 (c.2.2.1+1) (Ge c.2.2.2.1 P3)),true,rfl,rfl,fun h=>(by cases h),?_,fun _=>⟨ho,eq_of_beq hr,Bmy ho (eq_of_beq hr) (Avj zq0 hk) rfl,rfl,rfl⟩⟩
 simp only[A6,Amp,Ag5,List.length_replicate]
 omega
def HrH (c:Ap) (c':Ap) (z:Int):Prop:=(z≠0->c'=c)/\A6 c'<=A6 c+200/\(z=0->Ci c=true/\c.1=1/\Ci c'=true/\c'.1=c.1/\c'.2.1=c.2.1)
theorem Avp (c:Ap) (n:YI) (p:YBs) (h:A6 c<=67000000): ∃c' z,Pz c n p=some (c',(z,()))/\Vg c n p=some (c',(z,()))/\HrH c c' z:=by
 have nope: ∃c' z,some (c,((6:Int),()))=some (c',(z,()))/\some (c,((6:Int),()))=some (c',(z,()))/\HrH c c' z:=⟨c,6,rfl,rfl,fun _=>rfl,by omega,fun h=>by cases h⟩
 have hc:=h
 simp only[A6]at hc
 obtain⟨t,b,t1,t2,t3,t4,t5⟩:=Bq0 c h
 unfold Pz Ac6 Vg Asd
 simp only[Af,Ag,Aa]
 rw[Tn c zq0,R9 c zq0,Vt c A53 A54,R0 c,Cj,Cq,Ayz,Akw,t1,t2]
 simp only[Ae,I3,Z9]
 cases ho:Ci c with
 |false=>exact nope
 |true=>
 simp only[Bool.not_true,An]
 cases hr:(c.1==(1:Int))with
 |false=>rw[show(c.1 != (1:Int))=true by unfold bne;rw[hr];rfl];exact nope
 |true=>
 rw[show(c.1 != (1:Int))=false by unfold bne;rw[hr];rfl,An,An]
 cases hn:inR n.1 0 4294967294 with
 |false=>exact nope
 |true=>
 simp only[Bool.not_true,An]
 cases hs:Dx p.1 (Uw (IntKind.i64.wrap (n.1+1)))with
 |false=>exact nope
 |true=>
 simp only[Bool.not_true,An]
 obtain⟨f1,f2,f3,f4,f5⟩:=Hg ho
 have f6:=(E8 f3).1
 have f6:0<=c.2.2.1/\c.2.2.1<=4294967295:=f6
 rw[w64 zq0]
 have same: ∃c' z,some (c,((0:Int),()))=some (c',(z,()))/\some (c,((0:Int),()))=some (c',(z,()))/\HrH c c' z:=⟨c,0,rfl,rfl,fun _=>rfl,by omega,fun _=>⟨ho,eq_of_beq hr,ho,rfl,rfl⟩⟩
 cases hA:(n.1==c.2.2.1-1)with
 |true=>
  have e1:=eq_of_beq hA
  rw[show(n.1==c.2.2.1)=false by simp;omega,A9,An,A9]
  exact same
 |false=>
  rw[An]
  cases hB:(n.1==c.2.2.1)with
  |false=>rw[show(n.1 != c.2.2.1)=true by unfold bne;rw[hB];rfl];exact nope
  |true=>
   rw[show(n.1 != c.2.2.1)=false by unfold bne;rw[hB];rfl,An,A9]
   cases b with
   |false=>exact nope
   |true=>exact⟨t,0,rfl,rfl,fun h=>(h rfl).elim,t4,fun _=>t5 rfl⟩
def Jh (s:Ak) (X:Ap) (P:Bm) (la:Int):Ak:=(s.1,s.2.1,s.2.2.1,X.1,X.2.1,X.2.2.1,X.2.2.2.1,X.2.2.2.2.1,X.2.2.2.2.2.1,X.2.2.2.2.2.2.1,X.2.2.2.2.2.2.2.1,X.2.2.2.2.2.2.2.2.1,X.2.2.2.2.2.2.2.2.2.1,X.2.2.2.2.2.2.2.2.2.2.1,X.2.2.2.2.2.2.2.2.2.2.2.1,X.2.2.2.2.2.2.2.2.2.2.2.2.1,X.2.2.2.2.2.2.2.2.2.2.2.2.2.1,X.2.2.2.2.2.2.2.2.2.2.2.2.2.2.1,P.1,P.2.1,P.2.2.1,s.2.2.2.2.2.2.2.2.2.2.2.2.2.2.2.2.2.2.2.2.2.1,la,s.2.2.2.2.2.2.2.2.2.2.2.2.2.2.2.2.2.2.2.2.2.2.2.1,())
def SeH (s:Ak) (m:Nat) (r:Ak) (os:List Bc) (ns:List Ay):Prop:=A0 r<=A0 s+900/\os.length+Bu H7 os<=4*(A0 s+m+900)/\ns.length+Bu F0 ns<=12*(A0 s+m+900)
theorem A8p (s:Ak) (X:Ap) (P:Bm) (la:Int):A0 (Jh s X P la)+A6 (Cm s)+Bb (Bn s)=A0 s+A6 X+Bb P:=by
 simp only[A0,Jh,A6,Cm,Bb,Bn];omega
theorem Bgc (s:Ak) (n:YI) (a:A7) (f:Aq) (d:YBs) (h:A0 s<=8388608) (h2:Ar f<=8388608) (h3:d.1.length<=8388608) (w1:wfB f.2.2.2.1) (w2:wfB (Cm s).2.1):
  ∃r os ns k,Lk s n a f d=some (r,(os,()),(ns,()),(k,()))/\Au2 s n a f d=some (r,(os,()),(ns,()),(k,()))/\SeH s (Ar f+d.1.length) r os ns:=by
 have none: ∃r os ns k,some (s,(([]:List Bc),()),(([]:List Ay),()),(false,()))=some (r,(os,()),(ns,()),(k,()))/\some (s,(([]:List Bc),()),(([]:List Ay),()),(false,()))=some (r,(os,()),(ns,()),(k,()))/\SeH s (Ar f+d.1.length) r os ns:=⟨s,[],[],false,rfl,rfl,by omega,by simp[Bu],by simp[Bu]⟩
 have hch:=Abs s
 have hpa:=Avg s
 have hck:=Eo (Cm s)
 have hsl:s.2.2.1.length<=A0 s:=by simp only[A0];omega
 have htl:=Uy 0 f
 obtain⟨ch,p,z,o1,o2,O1,O2,O3,O4⟩:=Ay1 (Cm s) n f zq0 zq0 w1 w2
 obtain⟨k,kb,y1,y2,y3,y4⟩:=A8m (Cm s) (f.2.2.2.2.2.2.2.1,()) zq0
 have hchk:=Eo ch
 unfold Lk Xb Au2 Au1
 simp only[Af,Ag,Aa,Aj,Amb,Amc,Z8,Amd,Ame,Amf,Tj]
 rw[Mu s zq0,Ace s zq0,R7 s zq0,Aac s zq0,Iq,Ir]
 simp only[Ae]
 cases ho:Cs s with
 |false=>exact none
 |true=>
 simp only[Bool.not_true,An]
 by_cases hd0:s.2.2.2.2.2.2.2.2.2.2.2.2.2.2.2.2.2.2.2.2.2.2.2.1=true
 .rw[Ei hd0,Ei hd0];exact none
 have hd:s.2.2.2.2.2.2.2.2.2.2.2.2.2.2.2.2.2.2.2.2.2.2.2.1=false:=by simpa using hd0
 rw[C6 hd,C6 hd]
 cases ha:Cn a with
 |false=>exact none
 |true=>
 simp only[Bool.not_true,An]
 rw[show N9 _ n f=some (ch,(p,()),(z,()))from o1,show Ll _ n f=some (ch,(p,()),(z,()))from o2,show Xp _ (f.2.2.2.2.2.2.2.1,())=some ((k,()),(kb,()))from y1,show Aea _ (f.2.2.2.2.2.2.2.1,())=some ((k,()),(kb,()))from y2,Tm _ _ zq0,Xv _ _ zq0]
 simp only[Ae]
 by_cases hz:z=0
 case neg=>
  rw[Ei (by simpa using hz),Ei (by simpa using hz)]
  exact none
 case pos=>
 subst hz
 rw[C6 (by rfl),C6 (by rfl),A35 _ _ _ zq0 zq0 zq0,Br9 _ _ _ zq0 zq0 zq0]
 simp only[Ae]
 have d2:decide (s.2.2.1.length<=4294967296)=true:=Al zq0
 have d4:decide (p.length<=4294967296)=true:=Al zq0
 have tail: ∀(X:Ap) (P:Bm) (os:List Bc) (ns:List Ay) (p':Bm) (b:Bool) (y:Ap) (g:Aq) (zz:Int),A6 X<=A6 (Cm s)+400->Bb P<=Bb (Bn s)+50->A6 y<=A6 (Cm s)+400->Bb p'<=Bb (Bn s)+100->Ar g<=A0 s+d.1.length+432->
   os.length+Bu H7 os<=2*(A0 s+(Ar f+d.1.length)+900)->ns.length+Bu F0 ns<=8*(A0 s+(Ar f+d.1.length)+900)->
   ∃r os' ns' k,br (!b) (some (Jh s X P n.1,(os,()),(ns,()),(false,()))) (br (zz != (0:Int)) (some (Jh s X P n.1,(os,()),(ns,()),(false,()))) (some (Jh s y p' n.1,(os++[(a.1,a.2.1,g.1,g.2.1,g.2.2.1,g.2.2.2.1,g.2.2.2.2.1,g.2.2.2.2.2.1,g.2.2.2.2.2.2.1,g.2.2.2.2.2.2.2.1,g.2.2.2.2.2.2.2.2.1,g.2.2.2.2.2.2.2.2.2.1,g.2.2.2.2.2.2.2.2.2.2.1,())],()),(ns++[Gu y g],()),(true,()))))=some (r,(os',()),(ns',()),(k,()))/\
    br (!b) (some (Jh s X P n.1,(os,()),(ns,()),(false,()))) (br (zz != (0:Int)) (some (Jh s X P n.1,(os,()),(ns,()),(false,()))) (some (Jh s y p' n.1,(os++[(a.1,a.2.1,g.1,g.2.1,g.2.2.1,g.2.2.2.1,g.2.2.2.2.1,g.2.2.2.2.2.1,g.2.2.2.2.2.2.1,g.2.2.2.2.2.2.2.1,g.2.2.2.2.2.2.2.2.1,g.2.2.2.2.2.2.2.2.2.1,g.2.2.2.2.2.2.2.2.2.2.1,())],()),(ns++[Gu y g],()),(true,()))))=some (r,(os',()),(ns',()),(k,()))/\SeH s (Ar f+d.1.length) r os' ns':=by
  intro X P os ns p' b y g zz h1 h2 h3 h4 h5 h6 h7
  have e1:=A8p s X P n.1
  have e2:=A8p s y p' n.1
  have e3:=Uy y.1 g
  have e4:=Eo y
  cases b with
  |false=>exact⟨_,_,_,_,rfl,rfl,by omega,by omega,by omega⟩
  |true=>
   simp only[Bool.not_true,An]
   cases hzz:(zz != (0:Int))with
   |true=>exact⟨_,_,_,_,rfl,rfl,by omega,by omega,by omega⟩
   |false=>
    refine⟨_,_,_,_,rfl,rfl,by omega,?_,?_⟩
    .simp only[Sa,Bu,H7,List.length_append,List.length_nil,List.length_cons]
     simp only[Ar]at*
     omega
    .simp only[Sa,Bu,List.length_append,List.length_nil,List.length_cons]
     have e5:F0 (Gu y g)=y.2.2.2.1.length+(Dy y.1 g).length:=by simp only[F0,Gu,Ls,List.length_nil];omega
     omega
 simp only[List.length_nil,List.nil_append,List.length_cons,Nat.zero_add,Nat.reduceLeDiff,decide_true,Ba]
 cases h4:(f.1==(4:Int))with
 |true=>
  simp (disch:=first|omega|(dsimp only;omega)) only[A9,Cg]
  obtain⟨p',b,of1,of2,OF1,OF2,OF3⟩:=Iu (Bn s) n a d zq0
  obtain⟨y,g,zz,g1,g2,e',GS1,GS2,GS3,_⟩:=Gq (ch) 5 d.1 zq0
  have hyk:=Eo y
  rw[show Di _ n a d=some (p',(b,()))from of1,show Em _ n a d=some (p',(b,()))from of2,show Co _ (5,()) d=some (y,g,(zz,()))from g1,show Dp _ (5,()) d=some (y,g,(zz,()))from g2]
  simp only[Ae]
  rw[H9 y g zq0 zq0,Je y g zq0 zq0]
  simp only[Ae,List.length_nil,List.nil_append,List.append_nil,List.length_cons,List.length_append,Nat.zero_add,Nat.reduceAdd,Nat.reduceLeDiff,decide_true,Ba,d2,d4]
  exact tail (ch) (Bn s) ([]) ([Hm k s.2.2.1 (Dy 0 f),((6:Int),(0:Int),(0:Int),([]:List YB),s.2.2.1,f.2.2.2.2.2.2.2.1,f.2.2.2.2.2.2.2.2.1,p,([]:List YB),(0:Int),(0:Int),n.1,())]) p' b y g zz zq0 zq0 zq0 zq0 zq0 (by simp only[Bu,H7,List.length_nil,List.length_cons];simp only[Ar]at*;omega) (by simp only[Bu,F0,Hm,Gu,Ls,List.length_nil,List.length_cons];omega)
 |false=>
 simp only[An]
 cases h6:(f.1==(6:Int))with
 |true=>
  simp only[A9]
  obtain⟨pa,ab,an1,an2,AN1,AN2,AN3⟩:=Avo (Bn s) n a (p,()) zq0
  rw[show Pb _ n a (p,())=some (pa,(ab,()))from an1,show Aeb _ n a (p,())=some (pa,(ab,()))from an2]
  simp only[Ae]
  cases ab with
  |true=>
   simp (disch:=first|omega|(dsimp only;omega)) only[A9,Cg]
   obtain⟨p',b,of1,of2,OF1,OF2,OF3⟩:=Iu (pa) n a d zq0
   obtain⟨y,g,zz,g1,g2,e',GS1,GS2,GS3,_⟩:=Gq (ch) 5 d.1 zq0
   have hyk:=Eo y
   rw[show Di _ n a d=some (p',(b,()))from of1,show Em _ n a d=some (p',(b,()))from of2,show Co _ (5,()) d=some (y,g,(zz,()))from g1,show Dp _ (5,()) d=some (y,g,(zz,()))from g2]
   simp only[Ae]
   rw[H9 y g zq0 zq0,Je y g zq0 zq0]
   simp only[Ae,List.length_nil,List.nil_append,List.append_nil,List.length_cons,List.length_append,Nat.zero_add,Nat.reduceAdd,Nat.reduceLeDiff,decide_true,Ba,d2,d4]
   exact tail (ch) (pa) ([]) ([Hm k s.2.2.1 (Dy 0 f),((9:Int),(0:Int),(0:Int),([]:List YB),s.2.2.1,(0:Int),(0:Int),p,([]:List YB),a.1,a.2.1,n.1,())]) p' b y g zz zq0 zq0 zq0 zq0 zq0 (by simp only[Bu,H7,List.length_nil,List.length_cons];simp only[Ar]at*;omega) (by simp only[Bu,F0,Hm,Gu,Ls,List.length_nil,List.length_cons];omega)
  |false=>
   simp only[An]
   obtain⟨p',b,of1,of2,OF1,OF2,OF3⟩:=Iu (Bn s) n a d zq0
   obtain⟨y,g,zz,g1,g2,e',GS1,GS2,GS3,_⟩:=Gq (ch) 5 d.1 zq0
   have hyk:=Eo y
   rw[show Di _ n a d=some (p',(b,()))from of1,show Em _ n a d=some (p',(b,()))from of2,show Co _ (5,()) d=some (y,g,(zz,()))from g1,show Dp _ (5,()) d=some (y,g,(zz,()))from g2]
   simp only[Ae]
   rw[H9 y g zq0 zq0,Je y g zq0 zq0]
   simp only[Ae,List.length_nil,List.nil_append,List.append_nil,List.length_cons,List.length_append,Nat.zero_add,Nat.reduceAdd,Nat.reduceLeDiff,decide_true,Ba,d2,d4]
   exact tail (ch) (Bn s) ([]) ([Hm k s.2.2.1 (Dy 0 f)]) p' b y g zz zq0 zq0 zq0 zq0 zq0 (by simp only[Bu,H7,List.length_nil,List.length_cons];simp only[Ar]at*;omega) (by simp only[Bu,F0,Hm,Gu,Ls,List.length_nil,List.length_cons];omega)
 |false=>
 simp only[An]
 cases h7:(f.1==(7:Int))with
 |false=>
  simp only[An]
  obtain⟨p',b,of1,of2,OF1,OF2,OF3⟩:=Iu (Bn s) n a d zq0
  obtain⟨y,g,zz,g1,g2,e',GS1,GS2,GS3,_⟩:=Gq (ch) 5 d.1 zq0
  have hyk:=Eo y
  rw[show Di _ n a d=some (p',(b,()))from of1,show Em _ n a d=some (p',(b,()))from of2,show Co _ (5,()) d=some (y,g,(zz,()))from g1,show Dp _ (5,()) d=some (y,g,(zz,()))from g2]
  simp only[Ae]
  rw[H9 y g zq0 zq0,Je y g zq0 zq0]
  simp only[Ae,List.length_nil,List.nil_append,List.append_nil,List.length_cons,List.length_append,Nat.zero_add,Nat.reduceAdd,Nat.reduceLeDiff,decide_true,Ba,d2,d4]
  exact tail (ch) (Bn s) ([]) ([Hm k s.2.2.1 (Dy 0 f)]) p' b y g zz zq0 zq0 zq0 zq0 zq0 (by simp only[Bu,H7,List.length_nil,List.length_cons];simp only[Ar]at*;omega) (by simp only[Bu,F0,Hm,Gu,Ls,List.length_nil,List.length_cons];omega)
 |true=>
 simp only[A9]
 obtain⟨X,zr,r1,r2,R1,R2,R3⟩:=Avp ch (f.2.2.2.2.2.2.2.1,()) (p,()) zq0
 have hXk:=Eo X
 have d5:decide (X.2.2.2.1.length<=4294967296)=true:=Al zq0
 unfold Ve Va
 simp only[Af,Ag,Aa,Aj]
 rw[show Pz _ (f.2.2.2.2.2.2.2.1,()) (p,())=some (X,(zr,()))from r1,show Vg _ (f.2.2.2.2.2.2.2.1,()) (p,())=some (X,(zr,()))from r2]
 simp only[Ae,bne]
 cases hzr:(zr==(0:Int))with
 |false=>
  simp only[Bool.not_false,A9,An,Ae]
  obtain⟨p',b,of1,of2,OF1,OF2,OF3⟩:=Iu (Bn s) n a d zq0
  obtain⟨y,g,zz,g1,g2,e',GS1,GS2,GS3,_⟩:=Gq (ch) 5 d.1 zq0
  have hyk:=Eo y
  rw[show Di _ n a d=some (p',(b,()))from of1,show Em _ n a d=some (p',(b,()))from of2,show Co _ (5,()) d=some (y,g,(zz,()))from g1,show Dp _ (5,()) d=some (y,g,(zz,()))from g2]
  simp only[Ae]
  rw[H9 y g zq0 zq0,Je y g zq0 zq0]
  simp only[Ae,List.length_nil,List.nil_append,List.append_nil,List.length_cons,List.length_append,Nat.zero_add,Nat.reduceAdd,Nat.reduceLeDiff,decide_true,Ba,d2,d4]
  exact tail (ch) (Bn s) ([]) ([Hm k s.2.2.1 (Dy 0 f)]) p' b y g zz zq0 zq0 zq0 zq0 zq0 (by simp only[Bu,H7,List.length_nil,List.length_cons];simp only[Ar]at*;omega) (by simp only[Bu,F0,Hm,Gu,Ls,List.length_nil,List.length_cons];omega)
 |true=>
 simp only[Bool.not_true,A9,An]
 obtain⟨y',g',za,k1,k2,K1,K2,_⟩:=A32 X zq0
 have hyk':=Eo y'
 have htl2:=Uy y'.1 g'
 rw[k1,k2]
 simp only[Ae]
 rw[H9 y' g' zq0 zq0,Je y' g' zq0 zq0]
 cases hN:(X.2.2.1==ch.2.2.1)with
 |false=>
  simp (disch:=first|omega|(dsimp only;omega)) only[Bool.not_false,A9,An,Cg,Ae]
  cases hza:(za==(0:Int))with
  |true=>
   simp only[Bool.not_true,A9,An,Ae,List.length_nil,List.nil_append,List.length_cons,List.length_append,Nat.zero_add,Nat.reduceAdd,Nat.reduceLeDiff,decide_true,Ba,d2,d5]
   obtain⟨p',b,of1,of2,OF1,OF2,OF3⟩:=Iu (Bn s) n a d zq0
   obtain⟨y,g,zz,g1,g2,e',GS1,GS2,GS3,_⟩:=Gq (y') 5 d.1 zq0
   have hyk:=Eo y
   rw[show Di _ n a d=some (p',(b,()))from of1,show Em _ n a d=some (p',(b,()))from of2,show Co _ (5,()) d=some (y,g,(zz,()))from g1,show Dp _ (5,()) d=some (y,g,(zz,()))from g2]
   simp only[Ae]
   rw[H9 y g zq0 zq0,Je y g zq0 zq0]
   simp only[Ae,List.length_nil,List.nil_append,List.append_nil,List.length_cons,List.length_append,Nat.zero_add,Nat.reduceAdd,Nat.reduceLeDiff,decide_true,Ba,d2,d4]
   exact tail (y') (Bn s) ([(s.2.2.2.2.2.2.2.2.2.2.2.2.2.2.2.2.2.2.1,s.2.2.2.2.2.2.2.2.2.2.2.2.2.2.2.2.2.2.2.1,g'.1,g'.2.1,g'.2.2.1,g'.2.2.2.1,g'.2.2.2.2.1,g'.2.2.2.2.2.1,g'.2.2.2.2.2.2.1,g'.2.2.2.2.2.2.2.1,g'.2.2.2.2.2.2.2.2.1,g'.2.2.2.2.2.2.2.2.2.1,g'.2.2.2.2.2.2.2.2.2.2.1,())]) ([Hm k s.2.2.1 (Dy 0 f),((10:Int),(0:Int),(1:Int),([]:List YB),s.2.2.1,X.2.2.1,(0:Int),([]:List YB),X.2.2.2.1,(0:Int),(0:Int),(0:Int),()),Gu y' g']) p' b y g zz zq0 zq0 zq0 zq0 zq0 (by simp only[Bu,H7,List.length_nil,List.length_cons];simp only[Ar]at*;omega) (by simp only[Bu,F0,Hm,Gu,Ls,List.length_nil,List.length_cons];omega)
  |false=>
   simp only[Bool.not_false,A9,An,Ae,List.length_nil,List.nil_append,List.length_cons,List.length_append,Nat.zero_add,Nat.reduceAdd,Nat.reduceLeDiff,decide_true,Ba,d2,d5]
   obtain⟨p',b,of1,of2,OF1,OF2,OF3⟩:=Iu (Bn s) n a d zq0
   obtain⟨y,g,zz,g1,g2,e',GS1,GS2,GS3,_⟩:=Gq (X) 5 d.1 zq0
   have hyk:=Eo y
   rw[show Di _ n a d=some (p',(b,()))from of1,show Em _ n a d=some (p',(b,()))from of2,show Co _ (5,()) d=some (y,g,(zz,()))from g1,show Dp _ (5,()) d=some (y,g,(zz,()))from g2]
   simp only[Ae]
   rw[H9 y g zq0 zq0,Je y g zq0 zq0]
   simp only[Ae,List.length_nil,List.nil_append,List.append_nil,List.length_cons,List.length_append,Nat.zero_add,Nat.reduceAdd,Nat.reduceLeDiff,decide_true,Ba,d2,d4]
   exact tail (X) (Bn s) ([]) ([Hm k s.2.2.1 (Dy 0 f),((10:Int),(0:Int),(1:Int),([]:List YB),s.2.2.1,X.2.2.1,(0:Int),([]:List YB),X.2.2.2.1,(0:Int),(0:Int),(0:Int),())]) p' b y g zz zq0 zq0 zq0 zq0 zq0 (by simp only[Bu,H7,List.length_nil,List.length_cons];simp only[Ar]at*;omega) (by simp only[Bu,F0,Hm,Gu,Ls,List.length_nil,List.length_cons];omega)
 |true=>
  simp only[Bool.not_true,A9,An,Ae]
  cases hza:(za==(0:Int))with
  |true=>
   simp only[Bool.not_true,A9,An,Ae,List.length_nil,List.nil_append,List.length_cons,List.length_append,Nat.zero_add,Nat.reduceAdd,Nat.reduceLeDiff,decide_true,Ba,d2,d5]
   obtain⟨p',b,of1,of2,OF1,OF2,OF3⟩:=Iu (Bn s) n a d zq0
   obtain⟨y,g,zz,g1,g2,e',GS1,GS2,GS3,_⟩:=Gq (y') 5 d.1 zq0
   have hyk:=Eo y
   rw[show Di _ n a d=some (p',(b,()))from of1,show Em _ n a d=some (p',(b,()))from of2,show Co _ (5,()) d=some (y,g,(zz,()))from g1,show Dp _ (5,()) d=some (y,g,(zz,()))from g2]
   simp only[Ae]
   rw[H9 y g zq0 zq0,Je y g zq0 zq0]
   simp only[Ae,List.length_nil,List.nil_append,List.append_nil,List.length_cons,List.length_append,Nat.zero_add,Nat.reduceAdd,Nat.reduceLeDiff,decide_true,Ba,d2,d4]
   exact tail (y') (Bn s) ([(s.2.2.2.2.2.2.2.2.2.2.2.2.2.2.2.2.2.2.1,s.2.2.2.2.2.2.2.2.2.2.2.2.2.2.2.2.2.2.2.1,g'.1,g'.2.1,g'.2.2.1,g'.2.2.2.1,g'.2.2.2.2.1,g'.2.2.2.2.2.1,g'.2.2.2.2.2.2.1,g'.2.2.2.2.2.2.2.1,g'.2.2.2.2.2.2.2.2.1,g'.2.2.2.2.2.2.2.2.2.1,g'.2.2.2.2.2.2.2.2.2.2.1,())]) ([Hm k s.2.2.1 (Dy 0 f),Gu y' g']) p' b y g zz zq0 zq0 zq0 zq0 zq0 (by simp only[Bu,H7,List.length_nil,List.length_cons];simp only[Ar]at*;omega) (by simp only[Bu,F0,Hm,Gu,Ls,List.length_nil,List.length_cons];omega)
  |false=>
   simp only[Bool.not_false,A9,An,Ae,List.length_nil,List.nil_append,List.length_cons,List.length_append,Nat.zero_add,Nat.reduceAdd,Nat.reduceLeDiff,decide_true,Ba,d2,d5]
   obtain⟨p',b,of1,of2,OF1,OF2,OF3⟩:=Iu (Bn s) n a d zq0
   obtain⟨y,g,zz,g1,g2,e',GS1,GS2,GS3,_⟩:=Gq (X) 5 d.1 zq0
   have hyk:=Eo y
   rw[show Di _ n a d=some (p',(b,()))from of1,show Em _ n a d=some (p',(b,()))from of2,show Co _ (5,()) d=some (y,g,(zz,()))from g1,show Dp _ (5,()) d=some (y,g,(zz,()))from g2]
   simp only[Ae]
   rw[H9 y g zq0 zq0,Je y g zq0 zq0]
   simp only[Ae,List.length_nil,List.nil_append,List.append_nil,List.length_cons,List.length_append,Nat.zero_add,Nat.reduceAdd,Nat.reduceLeDiff,decide_true,Ba,d2,d4]
   exact tail (X) (Bn s) ([]) ([Hm k s.2.2.1 (Dy 0 f)]) p' b y g zz zq0 zq0 zq0 zq0 zq0 (by simp only[Bu,H7,List.length_nil,List.length_cons];simp only[Ar]at*;omega) (by simp only[Bu,F0,Hm,Gu,Ls,List.length_nil,List.length_cons];omega)
end
end Go.Proofs.YtnbbbaplphcebaaGreat
