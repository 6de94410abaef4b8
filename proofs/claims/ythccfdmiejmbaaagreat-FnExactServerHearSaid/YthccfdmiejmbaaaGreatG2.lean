/-
  That the program and the reference answer alike, in plain terms, and that the laws answer true.
-/
import Derived.Test.YthccfdmiejmbaaaGreatG1
namespace Go.Proofs.YthccfdmiejmbaaaGreat
open Go.RowKit
set_option linter.unusedVariables false
set_option linter.unusedSimpArgs false
set_option maxRecDepth 100000
set_option maxHeartbeats 8000000
noncomputable section
def Bsv (b:Int):Int:=IntKind.i64.wrap ((1:Int)*2^(min b.toNat IntKind.i64.bits))
def Bec (w b:Int):Int:=IntKind.i64.wrap ((BitVec.ofInt IntKind.i64.bits w &&& ~~~ BitVec.ofInt IntKind.i64.bits (Bsv b)).toNat:Nat)
def Aku (w b:Int):Int:=IntKind.i64.wrap ((BitVec.ofInt IntKind.i64.bits w ||| BitVec.ofInt IntKind.i64.bits (Bsv b)).toNat:Nat)
theorem Bp4 {b:Nat} (h:b<32):Bsv (b:Int)=((2^b:Nat):Int):=by
 unfold Bsv
 rw[show min (Int.toNat (b:Int)) IntKind.i64.bits=b by rw[Int.toNat_natCast];show min b 64=b;omega]
 have h1:(2:Nat)^b<=2^31:=Nat.pow_le_pow_right zq7 zq0
 have h2:((1:Int)*2^b)=((2^b:Nat):Int):=by push_cast;omega
 rw[h2]
 generalize (2:Nat)^b=N at h1 ⊢
 exact w64 zq0
theorem Qb (n:Nat):BitVec.ofInt IntKind.i64.bits (n:Int)=BitVec.ofNat 64 n:=by
 show BitVec.ofInt 64 (n:Int)=_
 simp
theorem Bz2 {w b:Nat} (hw:w<4294967296) (hb:b<32): ∃r:Nat,Bec (w:Int) (b:Int)=(r:Int)/\r<4294967296/\ ∀j,r.testBit j=(w.testBit j && !decide (j=b)):=by
 unfold Bec
 rw[Bp4 hb,Qb,Qb]
 refine⟨(BitVec.ofNat 64 w &&& ~~~ BitVec.ofNat 64 (2^b)).toNat,?_,?_,fun j=>?_⟩
 .have h1:(BitVec.ofNat 64 w &&& ~~~ BitVec.ofNat 64 (2^b)).toNat<=w:=by
   rw[BitVec.toNat_and]
   refine Nat.le_trans Nat.and_le_left ?_
   rw[BitVec.toNat_ofNat];exact Nat.mod_le _ _
  show IntKind.i64.wrap (((BitVec.ofNat 64 w &&& ~~~ BitVec.ofNat 64 (2^b)).toNat:Nat):Int)=_
  exact w64 zq0
 .have h1:(BitVec.ofNat 64 w &&& ~~~ BitVec.ofNat 64 (2^b)).toNat<=w:=by
   rw[BitVec.toNat_and]
   refine Nat.le_trans Nat.and_le_left ?_
   rw[BitVec.toNat_ofNat];exact Nat.mod_le _ _
  omega
 .rw[show((BitVec.ofNat 64 w &&& ~~~ BitVec.ofNat 64 (2^b)).toNat).testBit j=(BitVec.ofNat 64 w &&& ~~~ BitVec.ofNat 64 (2^b)).getLsbD j from rfl]
  rw[BitVec.getLsbD_and,BitVec.getLsbD_not,BitVec.getLsbD_ofNat,BitVec.getLsbD_ofNat,Nat.testBit_two_pow]
  by_cases hj:j<64
  .rw[show decide (j<64)=true from decide_eq_true hj]
   simp only[Bool.true_and]
   congr 2
   simp[eq_comm]
  .have:w.testBit j=false:=Nat.testBit_lt_two_pow (Nat.lt_of_lt_of_le hw (Nat.le_trans (by decide:4294967296<=2^64) (Nat.pow_le_pow_right zq7 zq0)))
   rw[this];simp
theorem Bed {w b:Nat} (hw:w<4294967296) (hb:b<32): ∃r:Nat,Aku (w:Int) (b:Int)=(r:Int)/\r<4294967296/\ ∀j,r.testBit j=(w.testBit j || decide (j=b)):=by
 unfold Aku
 rw[Bp4 hb,Qb,Qb]
 have hlt:(BitVec.ofNat 64 w ||| BitVec.ofNat 64 (2^b)).toNat<2^32:=by
  rw[BitVec.toNat_or]
  refine Nat.or_lt_two_pow ?_ ?_
  .rw[BitVec.toNat_ofNat];exact Nat.lt_of_le_of_lt (Nat.mod_le _ _) hw
  .rw[BitVec.toNat_ofNat];exact Nat.lt_of_le_of_lt (Nat.mod_le _ _) (Nat.pow_lt_pow_right zq7 hb)
 refine⟨(BitVec.ofNat 64 w ||| BitVec.ofNat 64 (2^b)).toNat,?_,hlt,fun j=>?_⟩
 .show IntKind.i64.wrap (((BitVec.ofNat 64 w ||| BitVec.ofNat 64 (2^b)).toNat:Nat):Int)=_
  exact w64 zq0
 .rw[show((BitVec.ofNat 64 w ||| BitVec.ofNat 64 (2^b)).toNat).testBit j=(BitVec.ofNat 64 w ||| BitVec.ofNat 64 (2^b)).getLsbD j from rfl]
  rw[BitVec.getLsbD_or,BitVec.getLsbD_ofNat,BitVec.getLsbD_ofNat,Nat.testBit_two_pow]
  by_cases hj:j<64
  .rw[show decide (j<64)=true from decide_eq_true hj]
   simp only[Bool.true_and]
   congr 1
   simp[eq_comm]
  .have h1:w.testBit j=false:=Nat.testBit_lt_two_pow (Nat.lt_of_lt_of_le hw (Nat.le_trans (by decide:4294967296<=2^64) (Nat.pow_le_pow_right zq7 zq0)))
   have h2:decide (j=b)=false:=decide_eq_false zq0
   rw[h1,h2];simp[hj]
def I1 (l:List YI):Prop:=l.length=32/\ ∀(q:Nat) (x:YI),l[q]? =some x->0<=x.1/\x.1<4294967296
def Ac8 (l:List YI) (r:Nat):Bool:=((l[r/32]?.getD (0,())).1.toNat).testBit (r%32)
theorem Bvw {l m:List YI} (h:I1 l) (k:I1 m) (hb: ∀r,r<1024->Ac8 l r=Ac8 m r):l=m:=by
 apply List.ext_getElem?
 intro q
 by_cases hq:q<32
 .have hql:q<l.length:=by rw[h.1];exact hq
  have hqm:q<m.length:=by rw[k.1];exact hq
  have hx:=List.getElem?_eq_getElem hql
  have hy:=List.getElem?_eq_getElem hqm
  have h1:=h.2 q _ hx
  have h2:=k.2 q _ hy
  have he:l[q].1.toNat=m[q].1.toNat:=by
   apply Nat.eq_of_testBit_eq
   intro j
   by_cases hj:j<32
   .have:=hb (32*q+j) zq0
    unfold Ac8 at this
    rw[show(32*q+j)/32=q by omega,show(32*q+j)%32=j by omega,hx,hy]at this
    exact this
   .have e: ∀n:Nat,n<4294967296->n.testBit j=false:=fun n hn=>Nat.testBit_lt_two_pow (Nat.lt_of_lt_of_le hn (Nat.le_trans (by decide:4294967296<=2^32) (Nat.pow_le_pow_right zq7 zq0)))
    rw[e _ zq0,e _ zq0]
  rw[hx,hy]
  have he2:l[q].1=m[q].1:=by omega
  have:l[q]=m[q]:=Prod.ext he2 rfl
  rw[this]
 .rw[List.getElem?_eq_none (by rw[h.1];omega),List.getElem?_eq_none (by rw[k.1];omega)]
def Qu (f:Int->Int->Int) (l:List YI) (n:Int):List YI:=l.set ((n%1024)/32).toNat (f (l[((n%1024)/32).toNat]?.getD (0,())).1 (n%32),())
theorem A3r {f:Int->Int->Int} {g:Bool->Bool->Bool} (hf: ∀ {w b:Nat},w<4294967296->b<32-> ∃r:Nat,f (w:Int) (b:Int)=(r:Int)/\r<4294967296/\ ∀j,r.testBit j=g (w.testBit j) (decide (j=b))) (hg: ∀x,g x false=x)
  {l:List YI} (h:I1 l) {n:Int} (h0:0<=n):I1 (Qu f l n)/\ ∀r,r<1024->Ac8 (Qu f l n) r=g (Ac8 l r) (decide ((r:Int)=n%1024)):=by
 obtain⟨m,rfl⟩:=Int.eq_ofNat_of_zero_le h0
 have hq:((m:Int)%1024/32).toNat=m%1024/32:=by omega
 have hlt:m%1024/32<l.length:=by rw[h.1];omega
 have hx:=List.getElem?_eq_getElem hlt
 have hw:=h.2 _ _ hx
 obtain⟨r,r1,r2,r3⟩:=hf (w:=l[m%1024/32].1.toNat) (b:=m%32) zq0 zq0
 have hval:f (l[m%1024/32]?.getD (0,())).1 ((m:Int)%32)=(r:Int):=by
  rw[hx]
  show f l[m%1024/32].1 ((m:Int)%32)=_
  rw[<-r1]
  congr 1<;>omega
 have ht:Qu f l (m:Int)=l.set (m%1024/32) ((r:Int),()):=by
  unfold Qu
  rw[hq,hval]
 rw[ht]
 refine⟨⟨by rw[List.length_set];exact h.1,fun q x hx'=>?_⟩,fun k hk=>?_⟩
 .rw[List.getElem?_set]at hx'
  split at hx'
  .simp only[Option.some.injEq]at hx'
   subst hx'
   exact⟨by simp,by simp;omega⟩
  .exact h.2 q x hx'
 .unfold Ac8
  rw[List.getElem?_set]
  by_cases hk2:m%1024/32=k/32
  .rw[if_pos hk2,if_pos hlt]
   show r.testBit (k%32)=_
   rw[r3,hk2.symm,hx]
   show g _ _=g _ _
   congr 1
   apply decide_eq_decide.2
   omega
  .rw[if_neg hk2]
   rw[show decide ((k:Int)=(m:Int)%1024)=false from decide_eq_false zq0,hg]
def N7 (l:List YI) (s:Int):Nat->List YI
 |0=>l
 |m+1=>Qu Bec (N7 l s m) (s+m)
theorem Zp {l:List YI} (h:I1 l) {s:Int} (h0:0<=s): ∀m:Nat,I1 (N7 l s m)/\ ∀r,r<1024->Ac8 (N7 l s m) r=(Ac8 l r && decide (∀k:Nat,k<m->(r:Int)≠(s+k)%1024))
 |0=>⟨h,fun r _=>by simp[N7]⟩
 |m+1=>by
  obtain⟨h1,h2⟩:=Zp h h0 m
  obtain⟨h3,h4⟩:=A3r (f:=Bec) (g:=fun x y=>x && !y) (fun hw hb=>Bz2 hw hb) (fun x=>by simp) h1 (n:=s+m) zq0
  refine⟨h3,fun r hr=>?_⟩
  show Ac8 (Qu Bec (N7 l s m) (s+m)) r=_
  rw[h4 r hr,h2 r hr,Bool.and_assoc]
  congr 1
  rw[<-decide_not,<-Bool.decide_and]
  apply decide_eq_decide.2
  constructor
  .rintro⟨a,b⟩ k hk
   rcases Nat.lt_or_ge k m with h|h
   .exact a k h
   .rw[show k=m by omega];exact b
  .intro a
   exact⟨fun k hk=>a k zq0,a m zq0⟩
theorem B1p {l:List YI} (h:I1 l) {s1 s2 n:Int} {m1 m2:Nat} (h1:0<=s1) (h2:0<=s2) (hn:0<=n)
  (he: ∀r:Nat,r<1024->(r:Int)≠n%1024->((∀k:Nat,k<m1->(r:Int)≠(s1+k)%1024)↔ ∀k:Nat,k<m2->(r:Int)≠(s2+k)%1024)):
  Qu Aku (N7 l s1 m1) n=Qu Aku (N7 l s2 m2) n:=by
 obtain⟨a1,a2⟩:=Zp h h1 m1
 obtain⟨b1,b2⟩:=Zp h h2 m2
 obtain⟨a3,a4⟩:=A3r (f:=Aku) (g:=fun x y=>x || y) (fun hw hb=>Bed hw hb) (fun x=>by simp) a1 hn
 obtain⟨b3,b4⟩:=A3r (f:=Aku) (g:=fun x y=>x || y) (fun hw hb=>Bed hw hb) (fun x=>by simp) b1 hn
 refine Bvw a3 b3 fun r hr=>?_
 rw[a4 r hr,b4 r hr,a2 r hr,b2 r hr]
 by_cases hrn:(r:Int)=n%1024
 .rw[show decide ((r:Int)=n%1024)=true from decide_eq_true hrn];simp
 .rw[show decide ((r:Int)=n%1024)=false from decide_eq_false hrn]
  simp only[Bool.or_false]
  congr 1
  exact decide_eq_decide.2 (he r hr hrn)
theorem Awv {l:List YI} (h:I1 l) {n:Int} (h0:0<=n):idx l (n%1024/32)=some (l[((n%1024)/32).toNat]?.getD (0,())):=by
 have hlt:((n%1024)/32).toNat<l.length:=by rw[h.1];omega
 unfold idx
 rw[if_pos zq0,List.getElem?_eq_getElem hlt];rfl
theorem Ae8 {w:Cz} (h:Od w=true):I1 w.2.1/\ -1<=w.1/\w.1<=281474976710655:=by
 unfold Od at h
 simp only[Bool.and_eq_true]at h
 have h1:=Bt.1 h.1
 refine⟨⟨by have:=h.2.1.2;simp at this;omega,fun q x hx=>?_⟩,h1.1,h1.2⟩
 have:=Ahj.1 h.2.1.1 q x hx
 omega
def L0 (w:Cz) (n:Int):Bool:=Od w && (inR n 0 281474976710655 && (decide (n>w.1) || (decide (n≥w.1-1023) && !Ago w n)))
theorem Bxv (w:Cz) (n:YI) (hl:w.2.1.length<=4294967296):Av3 w n=some (L0 w n.1,()):=by
 unfold Av3 Aup L0
 simp only[Ad,Ae,Aa]
 rw[Bpw w hl,Cf]
 simp only[Ab]
 cases ho:Od w with
 |false=>rfl
 |true=>
  obtain⟨h1,h2,h3⟩:=Ae8 ho
  cases hn:inR n.1 0 281474976710655 with
  |false=>rfl
  |true=>
   have hn':=Bt.1 hn
   simp only[Bool.not_true,Aj]
   rw[w64 (n:=w.1-1024) zq0,w64 zq0,A7x w n h1.1 hn'.1,show w.1-1024+1=w.1-1023 by omega]
   cases decide (n.1>w.1)<;>cases decide (n.1≥w.1-1023)<;>rfl
theorem Blx (w:Cz) (n:YI) (hl:w.2.1.length<=4294967296):Ag5 w n=some (L0 w n.1,()):=by
 unfold Ag5 Ath L0 A5o Anu
 simp only[Ad,Ae,Aa]
 rw[Bpx w,C4]
 simp only[Ab]
 cases ho:Od w with
 |false=>rfl
 |true=>
  obtain⟨h1,h2,h3⟩:=Ae8 ho
  cases hn:inR n.1 0 281474976710655 with
  |false=>rfl
  |true=>
   have hn':=Bt.1 hn
   simp only[Bool.not_true,Aj]
   rw[w64 (n:=w.1-1024) zq0,w64 zq0,Bd8 w n h1.1 hn'.1,show w.1-1024+1=w.1-1023 by omega]
   simp only[Ab]
   by_cases hg:n.1>w.1
   .rw[Ai hg];rfl
   .rw[Bk hg]
    by_cases ht:w.1<1024
    .rw[Ai ht,Ay,Ab]
     simp only
     rw[Ai (p:=n.1≥0) zq0,Ai (p:=n.1≥w.1-1023) zq0];rfl
    .rw[Bk ht]
     simp only[Aj,Ab]
     cases decide (n.1≥w.1-1023)<;>rfl
theorem Bvx {l:List YI} (h:I1 l) (n s t:Int) (l0:List YI) (t':Int) (m:Nat) (h0:0<=s) (hm:s+m=n\/(m=0/\n<=s)) (hn:n<=281474976710656) (hs:s<=281474976710656):
  Ax O6 (n,s,t,l0,(0:Int),([]:List YI),t',l,())=some (n,t,l0,(0:Int),([]:List YI),t',N7 l s m,()):=by
 have hl:=C6 (B:=O6) m (fun i=>(n,s+(i:Int),t,l0,(0:Int),([]:List YI),t',N7 l s i,())) (n,t,l0,(0:Int),([]:List YI),t',N7 l s m,())
  (fun i hi=>by
   have hw:=(Zp h h0 i).1
   have hx:=Awv hw (n:=s+(i:Int)) zq0
   unfold O6
   simp only[Ad,Ae,Aa,Ag]
   rw[Ai (p:=s+(i:Int)<n) zq0,Ay,Ai (p:=(0:Int)<=s+(i:Int)) zq0,Ai (p:=(0:Int)<=(s+(i:Int))%1024) zq0,Ai (p:=(0:Int)<=(s+(i:Int))%32) zq0,hx,w64 (n:=s+(i:Int)+1) zq0]
   simp only[Ab,Ar]
   rw[show s+((i+1:Nat):Int)=s+(i:Int)+1 by push_cast;omega]
   rfl)
  (by
   unfold O6
   simp only[Ad,Ae,Aa,Ag]
   rw[Bk zq0,Aj])
 rw[show s=s+((0:Nat):Int) by simp]at hl
 simpa [N7] using hl
theorem Bvy {l:List YI} (h:I1 l) (n s t:Int) (l0:List YI) (t':Int) (m:Nat) (h0:0<=s) (hm:(s+m=n+1/\m<=1024)\/(m=1024/\s+1024<=n+1)\/(m=0/\n<s)) (hn:n<=281474976710656) (hs:s<=281474976710656):
  Ax On (n,(0:Int),s,t,l0,(0:Int),([]:List YI),t',l,())=some (n,t,l0,(0:Int),([]:List YI),t',N7 l s m,()):=by
 have hl:=C6 (B:=On) m (fun i=>(n,(i:Int),s+(i:Int),t,l0,(0:Int),([]:List YI),t',N7 l s i,())) (n,t,l0,(0:Int),([]:List YI),t',N7 l s m,())
  (fun i hi=>by
   have hw:=(Zp h h0 i).1
   have hx:=Awv hw (n:=s+(i:Int)) zq0
   unfold On
   simp only[Ad,Ae,Aa,Ag]
   rw[Ai (p:=s+(i:Int)<=n) zq0,Ay,Ai (p:=(i:Int)<1024) zq0,Ay,Ai (p:=(0:Int)<=s+(i:Int)) zq0,Ai (p:=(0:Int)<=(s+(i:Int))%1024) zq0,show(s+(i:Int))%1024%32=(s+(i:Int))%32 by omega,Ai (p:=(0:Int)<=(s+(i:Int))%32) zq0,hx,w64 (n:=s+(i:Int)+1) zq0,w64 (n:=(i:Int)+1) zq0]
   simp only[Ab,Ar]
   rw[show s+((i+1:Nat):Int)=s+(i:Int)+1 by push_cast;omega]
   rfl)
  (by
   unfold On
   simp only[Ad,Ae,Aa,Ag]
   by_cases hle:s+(m:Int)<=n
   .rw[Ai hle,Ay,Bk (p:=(m:Int)<1024) zq0,Aj]
   .rw[Bk hle,Aj])
 rw[show s=s+((0:Nat):Int) by simp]at hl
 simpa [N7] using hl
def Bly (t n:Int):Nat:=if n<=t then 0 else if n<=t+1024 then(n-t-1).toNat else 1023
def Apl (t n:Int):Int:=if t+1<n-1023 then n-1023 else t+1
def Apm (t n:Int):Nat:=if n<=t then 0 else if n<=t+1024 then(n-t).toNat else 1024
def No (w:Cz) (n:Int):Cz:=(if w.1<n then n else w.1,Qu Aku (N7 w.2.1 (w.1+1) (Apm w.1 n)) n,())
theorem Bxw {l:List YI} (h:I1 l) {t n:Int} (ht: -1<=t) (hn:0<=n):Qu Aku (N7 l (Apl t n) (Bly t n)) n=Qu Aku (N7 l (t+1) (Apm t n)) n:=by
 refine B1p h (by unfold Apl;split<;>omega) zq0 hn fun r hr hne=>?_
 unfold Bly Apm Apl
 by_cases h1:n<=t
 .rw[if_pos h1,if_pos h1]
  exact⟨fun _ k hk=>by omega,fun _ k hk=>by omega⟩
 .rw[if_neg h1,if_neg h1]
  by_cases h2:n<=t+1024
  .rw[if_pos h2,if_pos h2,if_neg zq0]
   constructor
   .intro hk k hk2
    rcases Nat.lt_or_ge k (n-t-1).toNat with hh|hh
    .exact hk k hh
    .have:t+1+(k:Int)=n:=by omega
     rw[this];exact hne
   .intro hk k hk2
    exact hk k zq0
  .rw[if_neg h2,if_neg h2,if_pos zq0]
   constructor
   .intro hk
    exact(hk (((r:Int)-(n-1023))%1024).toNat zq0 zq0).elim
   .intro hk
    exact(hk (((r:Int)-(t+1))%1024).toNat zq0 zq0).elim
theorem Blz {f:Int->Int->Int} {l:List YI} {n:Int}:(Qu f l n).length=l.length:=by unfold Qu;simp
theorem Bl0 {l:List YI} {s:Int}: ∀m,(N7 l s m).length=l.length
 |0=>rfl
 |m+1=>by show(Qu Bec (N7 l s m) (s+m)).length=_;rw[Blz,Bl0 m]
theorem Bo7 (w:Cz) (n:Int):Bv (No w n)=Bv w:=by
 simp only[Bv,No,Blz,Bl0]
theorem Bxx (w:Cz) (n:YI) (hl:w.2.1.length<=4294967296):Av4 w n=some (bif L0 w n.1 then(No w n.1,(true,()))else(w,(false,()))):=by
 unfold Av4 Auq
 simp only[Ad,Ae,Aa,Ag]
 rw[A2e w (by simp only[Bv];omega),Bxv w n hl]
 simp only[Ab]
 cases hm:L0 w n.1 with
 |false=>rfl
 |true=>
  have hm':=hm
  unfold L0 at hm'
  simp only[Bool.and_eq_true]at hm'
  obtain⟨h1,h2,h3⟩:=Ae8 hm'.1
  have hn:=Bt.1 hm'.2.1
  simp only[Bool.not_true,Aj,cond_true]
  rw[w64 (n:=w.1+1) zq0,w64 (n:=n.1-1024) zq0,w64 (n:=n.1-1024+1) zq0,show n.1-1024+1=n.1-1023 by omega]
  rw[show(if w.1+1<n.1-1023 then n.1-1023 else w.1+1)=Apl w.1 n.1 from rfl]
  rw[Bvx h1 n.1 (Apl w.1 n.1) w.1 w.2.1 w.1 (Bly w.1 n.1) (by unfold Apl;split<;>omega) (by unfold Apl Bly;split<;>(try split)<;>(try split)<;>omega) zq0 (by unfold Apl;split<;>omega)]
  have hw:=(Zp h1 (s:=Apl w.1 n.1) (by unfold Apl;split<;>omega) (Bly w.1 n.1)).1
  simp only[Ab]
  rw[Ai (p:=(0:Int)<=n.1) zq0,Ai (p:=(0:Int)<=n.1%1024) zq0,Ai (p:=(0:Int)<=n.1%32) zq0,Awv hw hn.1]
  simp only[Ab,Ar]
  unfold No
  rw[<-Bxw h1 h2 hn.1]
  rfl
theorem Bxy (w:Cz) (n:YI) (hl:w.2.1.length<=4294967296):Avt w n=some (bif L0 w n.1 then(No w n.1,(true,()))else(w,(false,()))):=by
 unfold Avt Atj
 simp only[Ad,Ae,Aa,Ag]
 rw[Blm w (by simp only[Bv];omega),Blx w n hl]
 simp only[Ab]
 cases hm:L0 w n.1 with
 |false=>rfl
 |true=>
  have hm':=hm
  unfold L0 at hm'
  simp only[Bool.and_eq_true]at hm'
  obtain⟨h1,h2,h3⟩:=Ae8 hm'.1
  have hn:=Bt.1 hm'.2.1
  simp only[Bool.not_true,Aj,cond_true]
  rw[w64 (n:=w.1+1) zq0]
  rw[Bvy h1 n.1 (w.1+1) w.1 w.2.1 w.1 (Apm w.1 n.1) zq0 (by unfold Apm;split<;>(try split)<;>omega) zq0 zq0]
  have hw:=(Zp h1 (s:=w.1+1) zq0 (Apm w.1 n.1)).1
  simp only[Ab]
  rw[Ai (p:=(0:Int)<=n.1) zq0,Ai (p:=(0:Int)<=n.1%1024) zq0,show n.1%1024%32=n.1%32 by omega,Ai (p:=(0:Int)<=n.1%32) zq0,Awv hw hn.1]
  simp only[Ab,Ar]
  unfold No
  by_cases hg:n.1>w.1
  .rw[Ai hg,Ay,if_pos hg];rfl
  .rw[Bk hg,Aj,if_neg hg];rfl
def orx (d x y:Int):Int:=IntKind.i64.wrap ((BitVec.ofInt (IntKind.i64.bits) d ||| BitVec.ofInt (IntKind.i64.bits) ((IntKind.i64.wrap ((IntKind.u8.wrap ((BitVec.ofInt (IntKind.u8.bits) x ^^^ BitVec.ofInt (IntKind.u8.bits) y).toNat:Nat)))))).toNat:Nat)
theorem B1q {x y:Nat} (hx:x<=255) (hy:y<=255): ∃u:Nat,IntKind.i64.wrap ((IntKind.u8.wrap ((BitVec.ofInt (IntKind.u8.bits) (x:Int) ^^^ BitVec.ofInt (IntKind.u8.bits) (y:Int)).toNat:Nat)))=(u:Int)/\u<=255/\(u=0↔x=y):=by
 have e1:BitVec.ofInt (IntKind.u8.bits) (x:Int)=BitVec.ofNat 8 x:=by show BitVec.ofInt 8 (x:Int)=_;simp
 have e2:BitVec.ofInt (IntKind.u8.bits) (y:Int)=BitVec.ofNat 8 y:=by show BitVec.ofInt 8 (y:Int)=_;simp
 rw[e1,e2]
 have hlt:(BitVec.ofNat 8 x ^^^ BitVec.ofNat 8 y).toNat<256:=(BitVec.ofNat 8 x ^^^ BitVec.ofNat 8 y).isLt
 refine⟨(BitVec.ofNat 8 x ^^^ BitVec.ofNat 8 y).toNat,?_,by omega,?_⟩
 .show IntKind.i64.wrap (IntKind.u8.wrap (((BitVec.ofNat 8 x ^^^ BitVec.ofNat 8 y).toNat:Nat):Int))=_
  rw[w8 zq0,w64 zq0]
 .constructor
  .intro h
   have h1:BitVec.ofNat 8 x ^^^ BitVec.ofNat 8 y=0#8:=by apply BitVec.eq_of_toNat_eq;simpa using h
   have h2:BitVec.ofNat 8 x=BitVec.ofNat 8 y:=by
    have:=congrArg (· ^^^ BitVec.ofNat 8 y) h1
    simpa [BitVec.xor_assoc] using this
   have h3:=congrArg BitVec.toNat h2
   simp only[BitVec.toNat_ofNat]at h3
   omega
  .intro h;subst h;simp
theorem B1r {d x y:Int} (hd:0<=d/\d<=255) (hx:0<=x/\x<=255) (hy:0<=y/\y<=255):(0<=orx d x y/\orx d x y<=255)/\(orx d x y=0↔d=0/\x=y):=by
 obtain⟨d',rfl⟩:=Int.eq_ofNat_of_zero_le hd.1
 obtain⟨x',rfl⟩:=Int.eq_ofNat_of_zero_le hx.1
 obtain⟨y',rfl⟩:=Int.eq_ofNat_of_zero_le hy.1
 obtain⟨u,u1,u2,u3⟩:=B1q (x:=x') (y:=y') zq0 zq0
 have e1:BitVec.ofInt (IntKind.i64.bits) (d':Int)=BitVec.ofNat 64 d':=Qb d'
 have e2:BitVec.ofInt (IntKind.i64.bits) (u:Int)=BitVec.ofNat 64 u:=Qb u
 have hv:(BitVec.ofNat 64 d' ||| BitVec.ofNat 64 u).toNat=d' ||| u:=by
  rw[BitVec.toNat_or,BitVec.toNat_ofNat,BitVec.toNat_ofNat,Nat.mod_eq_of_lt zq0,Nat.mod_eq_of_lt zq0]
 have hlt:d' ||| u<2^8:=Nat.or_lt_two_pow zq0 zq0
 have hw:IntKind.i64.wrap (((BitVec.ofNat 64 d' ||| BitVec.ofNat 64 u).toNat:Nat):Int)=((d' ||| u:Nat):Int):=by
  rw[hv];exact w64 zq0
 have hz:(d' ||| u)=0↔d'=0/\u=0:=by
  constructor
  .intro h
   have h1:d'<=d' ||| u:=Nat.left_le_or
   have h2:u<=d' ||| u:=Nat.right_le_or
   omega
  .rintro⟨rfl,rfl⟩;rfl
 have key:orx (d':Int) (x':Int) (y':Int)=((d' ||| u:Nat):Int):=by
  unfold orx
  rw[u1,e1,e2]
  exact hw
 rw[key]
 refine⟨by omega,?_⟩
 rw[show(((d' ||| u:Nat):Int)=0)↔(d' ||| u)=0 by omega,hz,u3]
 omega
theorem Bl1 {a b:List YB} {i:Nat} {x y:YB} (hx:a[i]? =some x) (hy:b[i]? =some y):(a.take (i+1)=b.take (i+1))↔(a.take i=b.take i/\x.1=y.1):=by
 have ha:i<a.length:=(List.getElem?_eq_some_iff.1 hx).1
 have hb:i<b.length:=(List.getElem?_eq_some_iff.1 hy).1
 rw[<-E9 hx,<-E9 hy]
 constructor
 .intro h
  have:=List.append_inj h zq1
  refine⟨this.1,?_⟩
  have h2:=this.2
  simp only[List.cons.injEq,and_true]at h2
  rw[h2]
 .rintro⟨h1,h2⟩
  have:x=y:=Prod.ext h2 rfl
  rw[h1,this]
theorem Bp5 (a b:List YB) (h:a.length<=4294967296): ∃r,Xl (a,()) (b,())=some (r,())/\A7q (a,()) (b,())=some (r,())/\(wfB a->wfB b->(r=0↔a=b)):=by
 unfold Xl A7h A7q A6v
 simp only[Ad,Ae,Aa]
 by_cases hl:a.length=b.length
 .have e:(((a.length:Int) != (b.length:Int)))=false:=by simp[hl]
  simp only[e,Aj]
  obtain⟨o1,o2,h1,h2,hq⟩:=Xo (B1:=Aau) (B2:=Aad)
   (fun i d1 d2=>∃d:Int,(wfB a->wfB b->(0<=d/\d<=255)/\(d=0↔a.take i=b.take i))/\d1=(a,b,d,(a.length:Int),(i:Int),())/\d2=(a,b,d,(i:Int),()))
   (fun o1 o2=>o1=o2/\(wfB a->wfB b->(o1.1=0↔a=b))) a.length
   (by
    rintro i d1 d2 hi ⟨d,hd,rfl,rfl⟩
    have hib:i<b.length:=by omega
    have hx:=List.getElem?_eq_getElem hi
    have hy:=List.getElem?_eq_getElem hib
    left
    unfold Aau Aad
    simp only[Ad,Ae,Aa,Bw hi,Ay,Bc hx,Bc hy,Ab]
    rw[w64 (n:=(i:Int)+1) zq0]
    refine⟨_,_,rfl,rfl,orx d a[i].1 b[i].1,fun wa wb=>?_,rfl,rfl⟩
    obtain⟨hr,hz⟩:=hd wa wb
    obtain⟨k1,k2⟩:=B1r hr (wa i _ hx) (wb i _ hy)
    exact⟨k1,by rw[k2,hz,Bl1 hx hy]⟩)
   (by
    rintro d1 d2 ⟨d,hd,rfl,rfl⟩
    unfold Aau Aad
    simp only[Ad,Ae,Aa,B7,Aj]
    refine⟨_,_,rfl,rfl,rfl,fun wa wb=>?_⟩
    rw[(hd wa wb).2,List.take_length,hl,List.take_length])
   (d1:=(a,b,(0:Int),(a.length:Int),(0:Int),())) (d2:=(a,b,(0:Int),(0:Int),())) ⟨0,fun _ _=>⟨by omega,by simp⟩,rfl,rfl⟩
  obtain⟨hq1,hq2⟩:=hq
  subst hq1
  rw[h1,h2]
  exact⟨o1.1,rfl,rfl,hq2⟩
 .have e:(((a.length:Int) != (b.length:Int)))=true:=by simp;omega
  simp only[e,Ay]
  exact⟨-1,rfl,rfl,fun _ _=>⟨fun h=>by omega,fun h=>(hl (by rw[h])).elim⟩⟩
theorem Ahk (a b:List YB) (h:a.length<=4294967296): ∃r,Sa (a,()) (b,())=some (r,())/\V8 (a,()) (b,())=some (r,()):=by
 unfold Sa An5 V8 Ank
 simp only[Ad,Ae,Aa]
 obtain⟨r,r1,r2,_⟩:=Bp5 a b h
 rw[r1,r2]
 simp only[Ab]
 cases ((a.length:Int)==(16:Int))<;>exact⟨_,rfl,rfl⟩
theorem Bvz (k:List YB) (r:Int) (f:As) (h:A5 f<=536870912): ∃p b,Av5 (k,()) (r,()) f=some ((p,()),(b,()))/\Avs (k,()) (r,()) f=some ((p,()),(b,()))/\p.length<=A5 f/\
  (b=true->k.length=32/\p=mix k (Ek r f.2.2.2.1 f.2.2.2.2.2.2.2.1 f.2.2.2.2.2.2.2.2.1) f.2.2.2.2.2.2.2.2.2.1):=by
 have hm:=Bbm k (Ek r f.2.2.2.1 f.2.2.2.2.2.2.2.1 f.2.2.2.2.2.2.2.2.1) f.2.2.2.2.2.2.2.2.2.1
 have hn:f.2.2.2.2.2.2.2.2.2.1.length<=A5 f:=by simp only[A5];omega
 have hn2:f.2.2.2.2.2.2.2.2.2.2.1.length<=A5 f:=by simp only[A5];omega
 obtain⟨t,t1,t2⟩:=Ahk f.2.2.2.2.2.2.2.2.2.2.1 (Abs k (Dx r f)) zq0
 unfold Av5 Aur Avs Ati
 simp only[Ad,Ae,Aa]
 rw[Vh _ _ h,Abu _ _ h]
 simp only[Ab]
 rw[Bi9,Bja]
 simp only[Ab]
 rw[t1,t2]
 simp only[Ab]
 rw[A71,Awt]
 simp only[Ab]
 rw[Bzh,Bzi]
 simp only[Ab]
 cases hk:((k.length:Int) != (32:Int))with
 |true=>exact⟨[],false,rfl,rfl,by simp,fun h=>by cases h⟩
 |false=>
  cases (((Dx r f).length:Int)==(0:Int))with
  |true=>exact⟨[],false,rfl,rfl,by simp,fun h=>by cases h⟩
  |false=>
   cases t with
   |false=>exact⟨[],false,rfl,rfl,by simp,fun h=>by cases h⟩
   |true=>exact⟨_,true,rfl,rfl,by omega,fun _=>⟨by simp at hk;omega,rfl⟩⟩
def EpO (e:YEp) (r:Int) (f:As) (e':YEp) (p:List YB) (z:Int):Prop:=
 Bi e'=Bi e/\p.length<=A5 f/\(z≠0->e'=e/\p=[])/\(z=0->Hi e=true/\e'=(e.1,e.2.1,e.2.2.1,(No (e.2.2.2.1,e.2.2.2.2.1,()) f.2.2.2.2.2.2.2.2.1).1,(No (e.2.2.2.1,e.2.2.2.2.1,()) f.2.2.2.2.2.2.2.2.1).2.1,())/\L0 (e.2.2.2.1,e.2.2.2.2.1,()) f.2.2.2.2.2.2.2.2.1=true/\
  f.2.2.2.2.2.2.2.1=e.1/\p=mix e.2.1 (Ek r f.2.2.2.1 f.2.2.2.2.2.2.2.1 f.2.2.2.2.2.2.2.2.1) f.2.2.2.2.2.2.2.2.2.1)
theorem Amf (e:YEp) (r:Int) (f:As) (h:Bi e<=4294967296) (h2:A5 f<=536870912):
  ∃e' p z,I6 e (r,()) f=some (e',(p,()),(z,()))/\Nc e (r,()) f=some (e',(p,()),(z,()))/\EpO e r f e' p z:=by
 have hw:=Bo7 (e.2.2.2.1,e.2.2.2.2.1,()) f.2.2.2.2.2.2.2.2.1
 have hn:Bi e=e.2.1.length+e.2.2.2.2.1.length:=rfl
 have nope: ∀z:Int,z≠0-> ∃e' p z',some (e,(([]:List YB),()),(z,()))=some (e',(p,()),(z',()))/\some (e,(([]:List YB),()),(z,()))=some (e',(p,()),(z',()))/\EpO e r f e' p z':=fun z hz=>
  ⟨e,[],z,rfl,rfl,rfl,by simp,fun _=>⟨rfl,rfl⟩,fun h=>(hz h).elim⟩
 obtain⟨p,b,u1,u2,u3,u4⟩:=Bvz e.2.1 r f h2
 unfold I6 Aus Nc Atk
 simp only[Ad,Ae,Aa]
 rw[A72 e h,Awu e h,Bbe e zq0,Bla e,Vh _ _ h2,Abu _ _ h2,Bxx _ _ zq2,Bxy _ _ zq2,Blx _ _ zq2,u1,u2]
 simp only[Ab]
 cases ho:Hi e with
 |false=>exact nope 1 zq7
 |true=>
  simp only[Bool.not_true,Aj]
  cases (((Dx r f).length:Int)==(0:Int))with
  |true=>exact nope 1 zq7
  |false=>
   simp only[Aj]
   cases hne:(f.2.2.2.2.2.2.2.1 != e.1)with
   |true=>exact nope 1 zq7
   |false=>
    simp only[Aj]
    cases hm:L0 (e.2.2.2.1,e.2.2.2.2.1,()) f.2.2.2.2.2.2.2.2.1 with
    |false=>exact nope 3 zq7
    |true=>
     simp only[cond_true,Bool.not_true,Aj,Ab]
     cases b with
     |false=>exact nope 2 zq7
     |true=>
      simp only[Bool.not_true,Aj]
      refine⟨_,p,0,rfl,rfl,?_,u3,fun h=>(h rfl).elim,fun _=>⟨ho,rfl,hm,by simpa using hne,(u4 rfl).2⟩⟩
      simp only[Bv]at hw
      simp only[Bi];omega
theorem Ah0 {l:List YB}:wfB l↔ ∀x∈l,0<=x.1/\x.1<=255:=by
 constructor
 .intro h x hx
  obtain⟨i,hi⟩:=List.getElem?_of_mem hx
  exact h i x hi
 .intro h i x hx
  exact h x (List.mem_of_getElem? hx)
theorem Bp6:wfB []:=Ah0.2 zq3
theorem Bxz {a:List YB} {n:Nat} (ha:wfB a):wfB (a.take n):=Ah0.2 fun x hx=>Ah0.1 ha x (List.mem_of_mem_take hx)
theorem Bl2 {a:List YB} {n:Nat} (ha:wfB a):wfB (a.drop n):=Ah0.2 fun x hx=>Ah0.1 ha x (List.mem_of_mem_drop hx)
theorem u8_in (n:Int):0<=IntKind.u8.wrap n/\IntKind.u8.wrap n<=255:=by rw[IntKind.wrap_u8];omega
theorem Bz3 (k n p:List YB):wfB (mix k n p):=by
 unfold mix
 split
 .refine Ah0.2 fun x hx=>?_
  unfold Akt at hx
  obtain⟨j,_,rfl⟩:=List.mem_map.1 hx
  exact u8_in _
 .exact Bp6
theorem B1s (sn:List YB) (ep seq kind:Int) (p t:List YB) (hk:inR kind 4 8=true) (ht:t.length=16):Bm (kind,0,[],sn,0,[],[],ep,seq,p,t,())=(((sn.length:Int)==12) && (inR ep 0 4294967295 && (inR seq 0 281474976710655 && Ji kind (p.length:Int)))):=by
 unfold Bm
 simp only[hk,cond_true]
 simp[ht]
theorem Bp7 {k n:Int} (h:Ji k n=true):n<=40:=by
 unfold Ji at h
 cases h4:(k==4)<;>cases h5:(k==5)<;>cases h6:(k==6)<;>simp[h4,h5,h6]at h<;>omega
theorem Bp8 {k n p:List YB} (h1:p.length<=200) (h2:n.length<=100) (h3:k.length<=1048576):(mix k n p).length=p.length:=by
 unfold mix
 rw[if_pos ⟨h1,h2,h3⟩,Aws]
theorem Bz4 {k m:List YB} (h1:k.length<=1048576) (h2:m.length<=1048512):(Abs k m).length=16:=by
 unfold Abs
 rw[List.length_take,Sd k m h1 h2];rfl
theorem Ac9 {k:List YB} {r:Int} {sn:List YB} {ep seq kind:Int} {p:List YB} (h:Pn k r sn ep seq kind p=true):Bm (Ha k r sn ep seq kind p).1=true:=by
 have h':=h
 unfold Pn Hr at h'
 simp only[Bool.and_eq_true]at h'
 obtain⟨a1,⟨a2,a3,a4,a5⟩,a6,a7⟩:=h'
 have hk:k.length=32:=by simp at a1;omega
 have hsn:sn.length=12:=by simp at a3;omega
 have hp:=Bp7 a7
 have hl:(Ek r sn ep seq).length<=23:=by rw[Qa];cases Hr r sn ep seq<;>simp
 have hm:(mix k (Ek r sn ep seq) p).length=p.length:=Bp8 zq0 zq0 zq0
 have hti:=Aek r (kind,0,[],sn,0,[],[],ep,seq,mix k (Ek r sn ep seq) p,Tz,())
 have ht:(Abs k (Dx r (kind,0,[],sn,0,[],[],ep,seq,mix k (Ek r sn ep seq) p,Tz,()))).length=16:=by
  refine Bz4 zq0 ?_
  refine Nat.le_trans hti ?_
  simp only[A5,List.length_nil,hsn,hm,Tz,List.length_replicate];omega
 unfold Ha
 rw[h]
 simp only[cond_true]
 rw[B1s _ _ _ _ _ _ a6 ht,hm,a3,a4,a5,a7];rfl
theorem Ah1 {w:Cz} (h:I1 w.2.1) {n:Int} (h0:0<=n):Ago w n=Ac8 w.2.1 (n%1024).toNat:=by
 obtain⟨m,rfl⟩:=Int.eq_ofNat_of_zero_le h0
 have hlt:m%1024/32<w.2.1.length:=by rw[h.1];omega
 have hx:=List.getElem?_eq_getElem hlt
 have hw:=h.2 _ _ hx
 obtain⟨k,hk⟩:=Int.eq_ofNat_of_zero_le hw.1
 have hid:idx w.2.1 ((m:Int)%1024/32)=some w.2.1[m%1024/32]:=by
  rw[show(m:Int)%1024/32=((m%1024/32:Nat):Int) by omega];exact Bc hx
 unfold Ago Ac8
 rw[hid,show((m:Int)%1024).toNat=m%1024 by omega,hx]
 show(IntKind.i64.wrap _==1)=Nat.testBit (Int.toNat (w.2.1[m%1024/32]).1) _
 rw[hk,show((k:Int)).toNat=k by omega,show((m:Int)%32).toNat=m%32 by omega,show min (m%32) IntKind.i64.bits=m%32 from Nat.min_eq_left (by show m%32<=64;omega),show m%1024%32=m%32 by omega]
 have e1:Int.fdiv (k:Int) ((2:Int)^(m%32))=((k/2^(m%32):Nat):Int):=by
  rw[show((2:Int)^(m%32))=((2^(m%32):Nat):Int) by push_cast;rfl,Int.fdiv_eq_ediv_of_nonneg _ (Int.natCast_nonneg _)];rfl
 have hk32:k<4294967296:=by omega
 have hd:k/2^(m%32)<=k:=Nat.div_le_self _ _
 rw[e1,Qb]
 have e2:BitVec.ofInt IntKind.i64.bits (1:Int)=BitVec.ofNat 64 1:=Qb 1
 rw[e2]
 have e3:(BitVec.ofNat 64 (k/2^(m%32)) &&& BitVec.ofNat 64 1).toNat=k/2^(m%32)%2:=by
  rw[BitVec.toNat_and,BitVec.toNat_ofNat,BitVec.toNat_ofNat,Nat.mod_eq_of_lt (a:=k/2^(m%32)) (b:=2^64) (Nat.lt_of_le_of_lt hd zq0),show(1:Nat)%2^64=1 from rfl,Nat.and_one_is_mod]
 have e4:IntKind.i64.wrap (((BitVec.ofNat 64 (k/2^(m%32)) &&& BitVec.ofNat 64 1).toNat:Nat):Int)=((k/2^(m%32)%2:Nat):Int):=by
  rw[e3];exact w64 zq0
 show(IntKind.i64.wrap (((BitVec.ofNat 64 (k/2^(m%32)) &&& BitVec.ofNat 64 1).toNat:Nat):Int)==1)=_
 rw[e4,Nat.testBit_eq_decide_div_mod_eq]
 by_cases hb:k/2^(m%32)%2=1
 .simp[hb]
 .have:k/2^(m%32)%2=0:=by omega
  simp[this]
theorem Bv0 {w:Cz} {n:Int} (h:L0 w n=true):Od (No w n)=true:=by
 unfold L0 at h
 simp only[Bool.and_eq_true]at h
 obtain⟨h1,h2,h3⟩:=Ae8 h.1
 have hn:=Bt.1 h.2.1
 obtain⟨c1,c2⟩:=Zp h1 (s:=w.1+1) zq0 (Apm w.1 n)
 obtain⟨t1,t2⟩:=A3r (f:=Aku) (g:=fun x y=>x || y) (fun hw hb=>Bed hw hb) (fun x=>by simp) c1 hn.1
 have ho:=h.1
 unfold Od at ho
 simp only[Bool.and_eq_true]at ho
 have htop:(No w n).1=if w.1<n then n else w.1:=rfl
 have hbits:(No w n).2.1=Qu Aku (N7 w.2.1 (w.1+1) (Apm w.1 n)) n:=rfl
 have hwin:I1 (No w n).2.1:=t1
 have htail:=Apn.1 ho.2.2.1
 unfold Od
 simp only[Bool.and_eq_true]
 refine⟨Bt.2 (by rw[htop];split<;>omega),⟨Ahj.2 fun q x hx=>by have:=hwin.2 q x hx;omega,by rw[hwin.1];rfl⟩,?_,?_⟩
 .refine Apn.2 fun i hi=>?_
  rw[htop]at hi ⊢
  have hp:(0:Int)<=(if w.1<n then n else w.1)+1+(i:Nat):=by split<;>omega
  rw[Ah1 hwin hp,hbits]
  generalize hq:((if w.1<n then n else w.1)+1+(i:Nat))=p at hp
  have hp2:p<=1023:=by rw[<-hq];split at hi<;>(split<;>omega)
  have hp3:w.1<p/\n<p:=by rw[<-hq];split<;>omega
  rw[t2 _ zq0,c2 _ zq0]
  have hne:decide ((((p%1024).toNat:Nat):Int)=n%1024)=false:=decide_eq_false zq0
  have hold:=htail (p-w.1-1).toNat zq0
  rw[show w.1+1+(((p-w.1-1).toNat:Nat):Int)=p by omega,Ah1 h1 hp]at hold
  rw[hne,hold];rfl
 .rw[htop]
  by_cases hlt:w.1<n
  .rw[if_pos hlt,Ah1 hwin hn.1,hbits,t2 _ zq0]
   rw[show decide ((((n%1024).toNat:Nat):Int)=n%1024)=true from decide_eq_true zq0]
   simp
  .rw[if_neg hlt,Ah1 hwin zq0,hbits,t2 _ zq0,c2 _ zq0]
   have hm:Apm w.1 n=0:=by unfold Apm;rw[if_pos zq0]
   have hold:=ho.2.2.2
   rw[show(w.1== -1)=false by simp;omega,Bool.false_or,Ah1 h1 zq0]at hold
   rw[hold,hm]
   simp
theorem A2k (e:YEp) (r:YI) (f:As) (h:Bi e<=4294967296) (h2:A5 f<=536870912):I6 e r f=Nc e r f:=by
 obtain⟨r,⟨⟩⟩:=r
 obtain⟨e',p,z,k1,k2,_⟩:=Amf e r f h h2
 rw[k1,k2]
theorem Fa {e:YEp} (h:Hi e=true):(0<=e.1/\e.1<=4294967295)/\e.2.1.length=32/\e.2.2.2.2.1.length=32:=by
 unfold Hi Od at h
 simp only[Bool.and_eq_true,Bt]at h
 refine⟨h.1,by have:=h.2.1;simp at this;omega,by have:=h.2.2.2.2.1.2;simp at this;omega⟩
theorem Ig {c:Aq} (h:Co c=true):(c.1=0\/c.1=1)/\c.2.1.length=12/\Hi (Oc c)=true/\Qq c=true/\(c.2.2.2.2.2.2.2.2.2.2.2.2.2.2.1.length=0\/(c.1=0/\c.2.2.2.2.2.2.2.2.2.2.2.2.2.2.1.length=32/\c.2.2.1<4294967295)):=by
 unfold Co at h
 simp only[Bool.not_not,Bool.and_eq_true,Bool.or_eq_true,beq_iff_eq,decide_eq_true_eq]at h
 refine⟨h.1,by omega,h.2.2.1,h.2.2.2.1,?_⟩
 rcases h.2.2.2.2 with q|q
 .left;have:=q;simp only[Nl]at this;omega
 .right;have:=q;simp only[Nl]at this;exact⟨this.1,by omega,this.2.2⟩
theorem Apo {c:Aq} (h:Qq c=true) (hh:Abp c=true) (hN:0<=c.2.2.1/\c.2.2.1<=4294967295):Hi (Abn c)=true/\c.2.2.2.2.2.2.2.1=c.2.2.1-1/\((0<=Ac5 c/\Ac5 c<=1000005)\/(Ac5 c= -1/\c.1=1)):=by
 unfold Qq at h
 rw[hh]at h
 simp only[Bool.not_true,cond_false,Bool.not_not,Bool.and_eq_true,Bool.or_eq_true,Bool.not_eq_true',bne_eq_false_iff_eq,Bt,beq_iff_eq]at h
 refine⟨h.1,?_,h.2.2⟩
 have:=h.2.1
 have this:c.2.2.2.2.2.2.2.1=IntKind.i64.wrap (c.2.2.1-1):=this
 rw[w64 zq0]at this
 exact this
theorem Bo8 (c:Aq) (n:YI) (f:As) (h:Aw c<=67000000) (h2:A5 f<=67108864) (w1:wfB f.2.2.2.1) (w2:wfB c.2.1):Ph c n f=Lu c n f:=by
 have hc:=h
 simp only[Aw]at hc
 have hsn:f.2.2.2.1.length<=A5 f:=by simp only[A5];omega
 obtain⟨d,d1,d2,d3⟩:=Bp5 f.2.2.2.1 c.2.1 zq0
 have d3:=d3 w1 w2
 unfold Ph Ajm Lu Aag
 simp only[Ad,Ae,Aa]
 rw[Vi c zq0,T0 c zq0,Xq c Bd6 Bd7,Tw c,Cf,C4,Xs,Xt,Jj,P0,Tu,d1]
 simp only[Ab]
 cases ho:Co c with
 |false=>rfl
 |true=>
 cases inR n.1 0 1000000 with
 |false=>rfl
 |true=>
 simp only[Bool.not_true,Aj]
 cases inR f.1 4 8 with
 |false=>cases Bm f<;>rfl
 |true=>
 cases Bm f with
 |false=>rfl
 |true=>
 simp only[Bool.not_true,Aj]
 obtain⟨f1,f2,f3,f4,f5⟩:=Ig ho
 obtain⟨f6,f7,f8⟩:=Fa f3
 have f6:0<=c.2.2.1/\c.2.2.1<=4294967295:=f6
 have hwN:IntKind.i64.wrap (c.2.2.1+(1:Int))=c.2.2.1+1:=w64 zq0
 have hE1:=A2k (c.2.2.1,c.2.2.2.1,c.2.2.2.2.1,c.2.2.2.2.2.1,c.2.2.2.2.2.2.1,()) (IntKind.i64.wrap ((1:Int)-c.1),()) f (by simp only[Bi];omega) zq0
 have hE2:=A2k (c.2.2.2.2.2.2.2.1,c.2.2.2.2.2.2.2.2.1,c.2.2.2.2.2.2.2.2.2.1,c.2.2.2.2.2.2.2.2.2.2.1,c.2.2.2.2.2.2.2.2.2.2.2.1,()) (IntKind.i64.wrap ((1:Int)-c.1),()) f (by simp only[Bi];omega) zq0
 obtain⟨en,n1,n2,n3⟩:=A77 (IntKind.i64.wrap (c.2.2.1+(1:Int)),()) (c.2.2.2.2.2.2.2.2.2.2.2.2.2.2.1,())
 have hE3:=A2k en (IntKind.i64.wrap ((1:Int)-c.1),()) f zq0 zq0
 by_cases hs:f.2.2.2.1=c.2.1
 case neg=>
  have e1:(d != (0:Int))=true:=by simp;exact fun e=>hs (d3.1 e)
  have e2:Cm f.2.2.2.1 c.2.1=false:=by
   cases hh:Cm f.2.2.2.1 c.2.1 with
   |false=>rfl
   |true=>exact(hs (Blv w1 w2 hh)).elim
  rw[e1,e2]
  cases c.2.2.2.2.2.2.2.2.2.2.2.2.1<;>cases decide ((c.2.2.2.2.2.2.2.2.2.2.2.2.2.2.1.length:Int)>(0:Int))<;>rfl
 case pos=>
 have e1:(d != (0:Int))=false:=by simp;exact d3.2 hs
 have e2:Cm f.2.2.2.1 c.2.1=true:=by rw[hs];exact Qs _
 rw[e1,e2]
 simp only[Bool.not_true,Aj]
 have main (r:YEp×YBs×YI):(U4 r c f c n).val=br (r.2.2.1 != (0:Int)) (some (c,(([]:List YB),()),r.2.2)) ((Ld f c c r n).val):=rfl
 have main2 (r:YEp×YBs×YI):(Aba r c f c n).val=br (r.2.2.1 != (0:Int)) (some (c,(([]:List YB),()),r.2.2)) ((Sp f c c r n).val):=rfl
 have hA:c.2.2.2.2.2.2.2.2.2.2.2.2.1=true->c.2.2.2.2.2.2.2.1=c.2.2.1-1:=fun hh=>(Apo f4 hh f6).2.1
 cases hold:c.2.2.2.2.2.2.2.2.2.2.2.2.1 with
 |true=>
  have hoN:=hA hold
  by_cases hb:f.2.2.2.2.2.2.2.1=c.2.2.1
  .have q1:(f.2.2.2.2.2.2.2.1==c.2.2.1)=true:=by simpa using hb
   have q2:(f.2.2.2.2.2.2.2.1==c.2.2.2.2.2.2.2.1)=false:=by simp;omega
   have q3:(f.2.2.2.2.2.2.2.1==IntKind.i64.wrap (c.2.2.1+(1:Int)))=false:=by rw[hwN];simp;omega
   simp only[q1,Bool.not_true,Aj,Ay]
   rw[<-hE1]
   cases hnx:decide ((c.2.2.2.2.2.2.2.2.2.2.2.2.2.2.1.length:Int)>(0:Int))with
   |true=>
    simp only[Ay]
    unfold J2
    simp only[Ad,q2,Aj]
    unfold J1
    simp only[Ad,q2,Aj]
    unfold Aa9
    simp only[Ad,q3,Aj]
    unfold Sm
    simp only[Ae,main]
    unfold Ld
    simp only[Ad,q1,Ay]
    unfold Pg
    simp only[Ad,hold,Ay]
    unfold Acv
    simp only[Ad,Aa,hold]
   |false=>
    simp only[Aj]
    unfold So
    simp only[Ad,q2,Aj]
    unfold Ni
    simp only[Ad,q2,Aj]
    unfold Sm
    simp only[Ae,main]
    unfold Ld
    simp only[Ad,q1,Ay]
    unfold Pg
    simp only[Ad,hold,Ay]
    unfold Acv
    simp only[Ad,Aa,hold]
  .have q1:(f.2.2.2.2.2.2.2.1==c.2.2.1)=false:=by simpa using hb
   simp only[q1,Bool.not_false,Aj,Ay]
   by_cases ho2:f.2.2.2.2.2.2.2.1=c.2.2.2.2.2.2.2.1
   .have q2:(f.2.2.2.2.2.2.2.1==c.2.2.2.2.2.2.2.1)=true:=by simpa using ho2
    have q3:(f.2.2.2.2.2.2.2.1==IntKind.i64.wrap (c.2.2.1+(1:Int)))=false:=by rw[hwN];simp;omega
    simp only[q2,Bool.not_true,Aj,Ay]
    rw[<-hE2]
    have fin:(U5 c f c n).val=ob (I6 (c.2.2.2.2.2.2.2.1,c.2.2.2.2.2.2.2.2.1,c.2.2.2.2.2.2.2.2.2.1,c.2.2.2.2.2.2.2.2.2.2.1,c.2.2.2.2.2.2.2.2.2.2.2.1,()) (IntKind.i64.wrap ((1:Int)-c.1),()) f) fun r=>br (r.2.2.1 != (0:Int)) (some (c,(([]:List YB),()),r.2.2)) (some ((c.1,c.2.1,c.2.2.1,c.2.2.2.1,c.2.2.2.2.1,c.2.2.2.2.2.1,c.2.2.2.2.2.2.1,r.1.1,r.1.2.1,r.1.2.2.1,r.1.2.2.2.1,r.1.2.2.2.2.1,true,c.2.2.2.2.2.2.2.2.2.2.2.2.2.1,c.2.2.2.2.2.2.2.2.2.2.2.2.2.2.1,()),r.2.1,((0:Int),()))):=by
     unfold U5
     simp only[Ae,main]
     unfold Ld
     simp only[Ad,q1,Aj]
     unfold Acw
     simp only[Ad,q2,Ay,Aa,hold]
    cases hnx:decide ((c.2.2.2.2.2.2.2.2.2.2.2.2.2.2.1.length:Int)>(0:Int))with
    |true=>
     simp only[Ay]
     unfold J2
     simp only[Ad,q2,Ay]
     unfold Al4
     simp only[Ad]
     unfold Al3
     simp only[Ad,Aa]
     unfold J1
     simp only[Ad,q2,Ay]
     unfold Arb
     simp only[Ad,q3,Aj,fin]
    |false=>
     simp only[Aj]
     unfold So
     simp only[Ad,q2,Ay]
     unfold Al6
     simp only[Ad]
     unfold Al5
     simp only[Ad,Aa]
     unfold Ni
     simp only[Ad,q2,Ay,fin]
   .have q2:(f.2.2.2.2.2.2.2.1==c.2.2.2.2.2.2.2.1)=false:=by simpa using ho2
    simp only[q2,Bool.not_false,Aj,Ay]
    cases hnx:decide ((c.2.2.2.2.2.2.2.2.2.2.2.2.2.2.1.length:Int)>(0:Int))with
    |false=>rfl
    |true=>
     simp only[Ay]
     cases q3:(f.2.2.2.2.2.2.2.1==IntKind.i64.wrap (c.2.2.1+(1:Int)))with
     |false=>rfl
     |true=>
      simp only[Bool.not_true,Aj,Ay]
      rw[n2]
      simp only[Ab]
      rw[<-hE3]
      unfold J2
      simp only[Ad,q2,Aj]
      unfold J1
      simp only[Ad,q2,Aj]
      unfold Aa9
      simp only[Ad,q3,Ay]
      unfold Acx
      simp only[Ae]
      rw[n1]
      simp only[Ab]
      unfold Ara
      simp only[Ae,main]
      unfold Ld
      simp only[Ad,q1,Aj]
      unfold Acw
      simp only[Ad,q2,Aj,Aa]
 |false=>
  by_cases hb:f.2.2.2.2.2.2.2.1=c.2.2.1
  .have q1:(f.2.2.2.2.2.2.2.1==c.2.2.1)=true:=by simpa using hb
   have q3:(f.2.2.2.2.2.2.2.1==IntKind.i64.wrap (c.2.2.1+(1:Int)))=false:=by rw[hwN];simp;omega
   simp only[q1,Bool.not_true,Aj,Ay]
   rw[<-hE1]
   have fin:(Sq c f c n).val=ob (I6 (c.2.2.1,c.2.2.2.1,c.2.2.2.2.1,c.2.2.2.2.2.1,c.2.2.2.2.2.2.1,()) (IntKind.i64.wrap ((1:Int)-c.1),()) f) fun r=>br (r.2.2.1 != (0:Int)) (some (c,(([]:List YB),()),r.2.2)) (some ((c.1,c.2.1,r.1.1,r.1.2.1,r.1.2.2.1,r.1.2.2.2.1,r.1.2.2.2.2.1,c.2.2.2.2.2.2.2.1,c.2.2.2.2.2.2.2.2.1,c.2.2.2.2.2.2.2.2.2.1,c.2.2.2.2.2.2.2.2.2.2.1,c.2.2.2.2.2.2.2.2.2.2.2.1,false,c.2.2.2.2.2.2.2.2.2.2.2.2.2.1,c.2.2.2.2.2.2.2.2.2.2.2.2.2.2.1,()),r.2.1,((0:Int),()))):=by
    unfold Sq
    simp only[Ae,main2]
    unfold Sp
    simp only[Ad,q1,Ay]
    unfold Pg
    simp only[Ad,hold,Aj,Aa]
   cases hnx:decide ((c.2.2.2.2.2.2.2.2.2.2.2.2.2.2.1.length:Int)>(0:Int))with
   |true=>
    simp only[Ay]
    unfold Sr
    simp only[Ad,q3,Aj,fin]
   |false=>
    simp only[Aj,fin]
  .have q1:(f.2.2.2.2.2.2.2.1==c.2.2.1)=false:=by simpa using hb
   simp only[q1,Bool.not_false,Aj,Ay]
   cases hnx:decide ((c.2.2.2.2.2.2.2.2.2.2.2.2.2.2.1.length:Int)>(0:Int))with
   |false=>rfl
   |true=>
    simp only[Ay]
    cases q3:(f.2.2.2.2.2.2.2.1==IntKind.i64.wrap (c.2.2.1+(1:Int)))with
    |false=>rfl
    |true=>
     simp only[Bool.not_true,Aj,Ay]
     rw[n2]
     simp only[Ab]
     rw[<-hE3]
     unfold Sr
     simp only[Ad,q3,Ay]
     unfold Al8
     simp only[Ae]
     rw[n1]
     simp only[Ab]
     unfold Al7
     simp only[Ae,main2]
     unfold Sp
     simp only[Ad,q1,Aj,Aa]
def Arr (c:Aq) (e:YEp):Aq:=(c.1,c.2.1,c.2.2.1,c.2.2.2.1,c.2.2.2.2.1,c.2.2.2.2.2.1,c.2.2.2.2.2.2.1,e.1,e.2.1,e.2.2.1,e.2.2.2.1,e.2.2.2.2.1,c.2.2.2.2.2.2.2.2.2.2.2.2.1,c.2.2.2.2.2.2.2.2.2.2.2.2.2.1,c.2.2.2.2.2.2.2.2.2.2.2.2.2.2.1,())
def Ae9 (c:Aq) (u:Int):Aq:=(c.1,c.2.1,c.2.2.1,c.2.2.2.1,c.2.2.2.2.1,c.2.2.2.2.2.1,c.2.2.2.2.2.2.1,c.2.2.2.2.2.2.2.1,c.2.2.2.2.2.2.2.2.1,c.2.2.2.2.2.2.2.2.2.1,c.2.2.2.2.2.2.2.2.2.2.1,c.2.2.2.2.2.2.2.2.2.2.2.1,c.2.2.2.2.2.2.2.2.2.2.2.2.1,u,c.2.2.2.2.2.2.2.2.2.2.2.2.2.2.1,())
def moved (c:Aq) (e:YEp) (u:Int):Aq:=(c.1,c.2.1,e.1,e.2.1,e.2.2.1,e.2.2.2.1,e.2.2.2.2.1,c.2.2.1,c.2.2.2.1,c.2.2.2.2.1,c.2.2.2.2.2.1,c.2.2.2.2.2.2.1,true,u,([]:List YB),())
def Bx0 (e:YEp) (n:Int):YEp:=(e.1,e.2.1,e.2.2.1,(No (e.2.2.2.1,e.2.2.2.2.1,()) n).1,(No (e.2.2.2.1,e.2.2.2.2.1,()) n).2.1,())
theorem Bz5 {e:YEp} {n:Int} (h:Hi e=true) (hm:L0 (e.2.2.2.1,e.2.2.2.2.1,()) n=true):Hi (Bx0 e n)=true:=by
 have hw:=Bv0 hm
 unfold Hi at h ⊢
 simp only[Bool.and_eq_true]at h ⊢
 exact⟨h.1,h.2.1,h.2.2.1,hw⟩
theorem EpO.ok {e:YEp} {r:Int} {f:As} {e':YEp} {p:List YB} {z:Int} (h:EpO e r f e' p z) (hz:z=0):Hi e=true/\e'=Bx0 e f.2.2.2.2.2.2.2.2.1/\Hi e'=true/\f.2.2.2.2.2.2.2.1=e.1/\p=mix e.2.1 (Ek r f.2.2.2.1 f.2.2.2.2.2.2.2.1 f.2.2.2.2.2.2.2.2.1) f.2.2.2.2.2.2.2.2.2.1:=by
 obtain⟨h1,h2,h3,h4⟩:=h
 obtain⟨k1,k2,k3,k4,k5⟩:=h4 hz
 have k2':e'=Bx0 e f.2.2.2.2.2.2.2.2.1:=k2
 exact⟨k1,k2',by rw[k2'];exact Bz5 k1 k3,k4,k5⟩
theorem Vj {f:As} (h:Bm f=true) (hs:inR f.1 4 8=true):f.2.2.2.1.length=12/\(0<=f.2.2.2.2.2.2.2.1/\f.2.2.2.2.2.2.2.1<=4294967295)/\(0<=f.2.2.2.2.2.2.2.2.1/\f.2.2.2.2.2.2.2.2.1<=281474976710655)/\Ji f.1 (f.2.2.2.2.2.2.2.2.2.1.length:Int)=true/\f.2.2.2.2.2.2.2.2.2.1.length<=40:=by
 unfold Bm at h
 rw[hs]at h
 simp only[cond_true,Bool.and_eq_true,Bt,beq_iff_eq]at h
 have hb:=h.2.2.2.2.2.2.2.2.1
 have:=Bp7 hb
 exact⟨by omega,h.2.2.2.2.2.2.1,h.2.2.2.2.2.2.2.1,hb,by omega⟩
def ChO (c:Aq) (n:Int) (f:As) (c':Aq) (p:List YB) (z:Int):Prop:=
 Aw c'<=Aw c+200/\p.length<=A5 f/\(z≠0->c'=c/\p=[])/\
 (z=0->Co c=true/\Co c'=true/\(0<=n/\n<=1000000)/\Bm f=true/\inR f.1 4 8=true/\f.2.2.2.1=c.2.1/\c'.1=c.1/\c'.2.1=c.2.1/\
  p.length=f.2.2.2.2.2.2.2.2.2.1.length/\wfB p/\
  ((c'.2.2.1=c.2.2.1/\Nl c'=Nl c/\c'.2.2.2.2.1=c.2.2.2.2.1/\c'.2.2.2.1=c.2.2.2.1)\/(c'.2.2.1=c.2.2.1+1/\Nl c'=[]/\c'.2.2.2.2.1=0/\f.2.2.2.2.2.2.2.1=c.2.2.1+1/\(Nl c).length=32)))
theorem Bl3 {c:Aq} {u:Int} (h:Co c=true) (hh:Abp c=true) (hu:0<=u/\u<=1000005):Co (Ae9 c u)=true:=by
 unfold Co at h ⊢
 simp only[Bool.not_not,Bool.and_eq_true]at h ⊢
 refine⟨h.1,h.2.1,h.2.2.1,?_,h.2.2.2.2⟩
 have ho:=h.2.2.2.1
 unfold Qq at ho ⊢
 rw[hh]at ho
 have hh':Abp (Ae9 c u)=true:=hh
 rw[hh']
 simp only[Bool.not_true,cond_false,Bool.not_not,Bool.and_eq_true,Bool.or_eq_true]at ho ⊢
 exact⟨ho.1,ho.2.1,.inl (Bt.2 hu)⟩
theorem Bsw {c:Aq} {e:YEp} (h:Co c=true) (hh:Abp c=true) (he:Hi e=true) (h1:e.1=(Abn c).1):Co (Arr c e)=true:=by
 unfold Co at h ⊢
 simp only[Bool.not_not,Bool.and_eq_true]at h ⊢
 refine⟨h.1,h.2.1,h.2.2.1,?_,h.2.2.2.2⟩
 have ho:=h.2.2.2.1
 unfold Qq at ho ⊢
 rw[hh]at ho
 have hh':Abp (Arr c e)=true:=hh
 rw[hh']
 simp only[Bool.not_true,cond_false,Bool.not_not,Bool.and_eq_true,Bool.or_eq_true]at ho ⊢
 refine⟨he,?_,ho.2.2⟩
 have:=ho.2.1
 rw[<-h1]at this
 exact this
theorem Bx1 {c:Aq} {e:YEp} {u:Int} (h:Co c=true) (he:Hi e=true) (h1:e.1=c.2.2.1+1) (hu:0<=u/\u<=1000005):Co (moved c e u)=true:=by
 obtain⟨f1,f2,f3,f4,f5⟩:=Ig h
 have f6:=(Fa f3).1
 have f7:=(Fa he).1
 unfold Co at h ⊢
 simp only[Bool.not_not,Bool.and_eq_true]at h ⊢
 refine⟨h.1,h.2.1,he,?_,?_⟩
 .unfold Qq
  have hh:Abp (moved c e u)=true:=rfl
  rw[hh]
  simp only[Bool.not_true,cond_false,Bool.not_not,Bool.and_eq_true,Bool.or_eq_true,Bool.not_eq_true',bne_eq_false_iff_eq]
  refine⟨f3,?_,.inl (Bt.2 hu)⟩
  show c.2.2.1=IntKind.i64.wrap (e.1-1)
  have f6':0<=c.2.2.1/\c.2.2.1<=4294967295:=f6
  rw[w64 zq0];omega
 .show(((([]:List YB).length:Int)==0) || _)=true
  rfl
theorem Bsx (c:Aq) (n:YI) (f:As) (h:Aw c<=67000000) (h2:A5 f<=67108864) (w1:wfB f.2.2.2.1) (w2:wfB c.2.1):
  ∃c' p z,Lu c n f=some (c',(p,()),(z,()))/\ChO c n.1 f c' p z:=by
 have hc:=h
 simp only[Aw]at hc
 unfold Lu Aag
 simp only[Ad,Ae,Aa]
 rw[T0 c zq0,Tw c,C4,Xt,P0,Tu]
 simp only[Ab]
 have nope: ∀z:Int,z≠0-> ∃c' p z',some (c,(([]:List YB),()),(z,()))=some (c',(p,()),(z',()))/\ChO c n.1 f c' p z':=fun z hz=>
  ⟨c,[],z,rfl,by omega,by simp,fun _=>⟨rfl,rfl⟩,fun h=>(hz h).elim⟩
 cases ho:Co c with
 |false=>exact nope 1 zq7
 |true=>
 cases hn:inR n.1 0 1000000 with
 |false=>exact nope 1 zq7
 |true=>
 simp only[Bool.not_true,Aj]
 cases hfo:Bm f with
 |false=>exact nope 1 zq7
 |true=>
 simp only[Bool.not_true,Aj]
 cases hse:inR f.1 4 8 with
 |false=>exact nope 1 zq7
 |true=>
 simp only[Bool.not_true,Aj]
 have hn':=Bt.1 hn
 obtain⟨b1,b2,b3,b4,b5⟩:=Vj hfo hse
 obtain⟨f1,f2,f3,f4,f5⟩:=Ig ho
 obtain⟨f6,f7,f8⟩:=Fa f3
 have f6:0<=c.2.2.1/\c.2.2.1<=4294967295:=f6
 have hwN:IntKind.i64.wrap (c.2.2.1+(1:Int))=c.2.2.1+1:=w64 zq0
 have hw5:IntKind.i64.wrap (n.1+(5:Int))=n.1+5:=w64 zq0
 have hr:IntKind.i64.wrap ((1:Int)-c.1)=1-c.1:=w64 zq0
 obtain⟨e1,p1,z1,_,s1,E1⟩:=Amf (c.2.2.1,c.2.2.2.1,c.2.2.2.2.1,c.2.2.2.2.2.1,c.2.2.2.2.2.2.1,()) (1-c.1) f (by simp only[Bi];omega) zq0
 obtain⟨e2,p2,z2,_,s2,E2⟩:=Amf (c.2.2.2.2.2.2.2.1,c.2.2.2.2.2.2.2.2.1,c.2.2.2.2.2.2.2.2.2.1,c.2.2.2.2.2.2.2.2.2.2.1,c.2.2.2.2.2.2.2.2.2.2.2.1,()) (1-c.1) f (by simp only[Bi];omega) zq0
 obtain⟨en,n1,n2,n3⟩:=A77 (IntKind.i64.wrap (c.2.2.1+(1:Int)),()) (c.2.2.2.2.2.2.2.2.2.2.2.2.2.2.1,())
 obtain⟨e3,p3,z3,_,s3,E3⟩:=Amf en (1-c.1) f zq0 zq0
 rw[hr,s1,s2,n2]
 simp only[Ab]
 rw[s3]
 simp only[Ab]
 cases hs:Cm f.2.2.2.1 c.2.1 with
 |false=>exact nope 8 zq7
 |true=>
 have hsn:=Blv w1 w2 hs
 simp only[Bool.not_true,Aj]
 have pl: ∀ {k:List YB} {p:List YB},k.length=32->p=mix k (Ek (1-c.1) f.2.2.2.1 f.2.2.2.2.2.2.2.1 f.2.2.2.2.2.2.2.2.1) f.2.2.2.2.2.2.2.2.2.1->p.length=f.2.2.2.2.2.2.2.2.2.1.length/\wfB p:=fun {k p} hk hp=>by
  have hl:(Ek (1-c.1) f.2.2.2.1 f.2.2.2.2.2.2.2.1 f.2.2.2.2.2.2.2.2.1).length<=23:=by
   rw[Qa];cases Hr (1-c.1) f.2.2.2.1 f.2.2.2.2.2.2.2.1 f.2.2.2.2.2.2.2.2.1<;>simp
  rw[hp]
  exact⟨Bp8 zq0 zq0 zq0,Bz3 _ _ _⟩
 have hnE1:Bi e1=Bi (Oc c):=E1.1
 have hnE2:Bi e2=Bi (Abn c):=E2.1
 simp only[Bi,Oc]at hnE1
 simp only[Bi,Abn]at hnE2
 have hpn: ∀p:List YB,p.length=f.2.2.2.2.2.2.2.2.2.1.length->p.length<=A5 f:=fun p h=>by simp only[A5];omega
 cases q1:(f.2.2.2.2.2.2.2.1==c.2.2.1)with
 |true=>
  simp only[Ay]
  by_cases hz:z1=0
  .subst hz
   simp only[show((0:Int) != (0:Int))=false from rfl,Aj]
   obtain⟨o1,o2,o3,o4,o5⟩:=E1.ok rfl
   obtain⟨g1,g2⟩:=pl f7 o5
   have hN:e1.1=c.2.2.1:=by rw[o2];rfl
   have hcur:=Bbq ho o3 hN
   have hk:e1.2.1=c.2.2.2.1:=by rw[o2];rfl
   have hq:e1.2.2.1=c.2.2.2.2.1:=by rw[o2];rfl
   have plain:ChO c n.1 f (Gk c e1) p1 0:=⟨by simp only[Aw,Gk];omega,hpn _ g1,fun h=>(h rfl).elim,fun _=>⟨ho,hcur,hn',hfo,hse,hsn,rfl,rfl,g1,g2,.inl ⟨hN,rfl,hq,hk⟩⟩⟩
   cases hold:c.2.2.2.2.2.2.2.2.2.2.2.2.1 with
   |true=>
    simp only[Ay]
    cases hu:(c.2.2.2.2.2.2.2.2.2.2.2.2.2.1==(-1:Int))with
    |true=>
     rw[Ay,hw5]
     have hw:=Bl3 (c:=Gk c e1) (u:=n.1+5) hcur hold zq0
     refine⟨_,p1,0,rfl,?_⟩
     rw[show((c.1,c.2.1,e1.1,e1.2.1,e1.2.2.1,e1.2.2.2.1,e1.2.2.2.2.1,c.2.2.2.2.2.2.2.1,c.2.2.2.2.2.2.2.2.1,c.2.2.2.2.2.2.2.2.2.1,c.2.2.2.2.2.2.2.2.2.2.1,c.2.2.2.2.2.2.2.2.2.2.2.1,true,n.1+5,c.2.2.2.2.2.2.2.2.2.2.2.2.2.2.1,()):Aq)=Ae9 (Gk c e1) (n.1+5) by simp only[Ae9,Gk,hold]]
     exact⟨by simp only[Aw,Gk,Ae9];omega,hpn _ g1,fun h=>(h rfl).elim,fun _=>⟨ho,hw,hn',hfo,hse,hsn,rfl,rfl,g1,g2,.inl ⟨hN,rfl,hq,hk⟩⟩⟩
    |false=>
     rw[Aj]
     refine⟨_,p1,0,rfl,?_⟩
     rw[show((c.1,c.2.1,e1.1,e1.2.1,e1.2.2.1,e1.2.2.2.1,e1.2.2.2.2.1,c.2.2.2.2.2.2.2.1,c.2.2.2.2.2.2.2.2.1,c.2.2.2.2.2.2.2.2.2.1,c.2.2.2.2.2.2.2.2.2.2.1,c.2.2.2.2.2.2.2.2.2.2.2.1,true,c.2.2.2.2.2.2.2.2.2.2.2.2.2.1,c.2.2.2.2.2.2.2.2.2.2.2.2.2.2.1,()):Aq)=Gk c e1 by simp only[Gk,hold]]
     exact plain
   |false=>
    rw[Aj]
    refine⟨_,p1,0,rfl,?_⟩
    rw[show((c.1,c.2.1,e1.1,e1.2.1,e1.2.2.1,e1.2.2.2.1,e1.2.2.2.2.1,c.2.2.2.2.2.2.2.1,c.2.2.2.2.2.2.2.2.1,c.2.2.2.2.2.2.2.2.2.1,c.2.2.2.2.2.2.2.2.2.2.1,c.2.2.2.2.2.2.2.2.2.2.2.1,false,c.2.2.2.2.2.2.2.2.2.2.2.2.2.1,c.2.2.2.2.2.2.2.2.2.2.2.2.2.2.1,()):Aq)=Gk c e1 by simp only[Gk,hold]]
    exact plain
  .simp only[show(z1 != (0:Int))=true by simpa using hz,Ay]
   exact nope z1 hz
 |false=>
  simp only[Aj]
  have nxt: ∃c' p z,(br (decide ((c.2.2.2.2.2.2.2.2.2.2.2.2.2.2.1.length:Int)>(0:Int))) (br (f.2.2.2.2.2.2.2.1==IntKind.i64.wrap (c.2.2.1+(1:Int))) (br (z3 != (0:Int)) (some (c,(([]:List YB),()),(z3,()))) (some ((c.1,c.2.1,e3.1,e3.2.1,e3.2.2.1,e3.2.2.2.1,e3.2.2.2.2.1,c.2.2.1,c.2.2.2.1,c.2.2.2.2.1,c.2.2.2.2.2.1,c.2.2.2.2.2.2.1,true,IntKind.i64.wrap (n.1+(5:Int)),([]:List YB),()),(p3,()),((0:Int),())))) (some (c,(([]:List YB),()),((8:Int),())))) (some (c,(([]:List YB),()),((8:Int),()))))=some (c',(p,()),(z,()))/\ChO c n.1 f c' p z:=by
   cases hnx:decide ((c.2.2.2.2.2.2.2.2.2.2.2.2.2.2.1.length:Int)>(0:Int))with
   |false=>exact nope 8 zq7
   |true=>
   have hnx':(c.2.2.2.2.2.2.2.2.2.2.2.2.2.2.1.length:Int)>0:=of_decide_eq_true hnx
   obtain⟨k1,k2,k3⟩:=f5.resolve_left zq0
   simp only[Ay]
   cases q3:(f.2.2.2.2.2.2.2.1==IntKind.i64.wrap (c.2.2.1+(1:Int)))with
   |false=>exact nope 8 zq7
   |true=>
   rw[hwN]at q3
   have q3:f.2.2.2.2.2.2.2.1=c.2.2.1+1:=by simpa using q3
   simp only[Ay]
   by_cases hz:z3=0
   .subst hz
    simp only[show((0:Int) != (0:Int))=false from rfl,Aj,hw5]
    obtain⟨o1,o2,o3,o4,o5⟩:=E3.ok rfl
    obtain⟨g1,g2⟩:=pl (Fa o1).2.1 o5
    have hN:e3.1=c.2.2.1+1:=by rw[o2];show en.1=_;rw[<-o4,q3]
    have hs0:e3.2.2.1=0:=by
     rw[o2]
     show en.2.2.1=0
     unfold Nb Aeu at n2
     simp only[Ad,Ae,Aa,Ag,C4,Ab]at n2
     cases hb:inR (IntKind.i64.wrap (c.2.2.1+(1:Int))) 0 4294967295 with
     |false=>
      rw[hb]at n2
      simp only[Bool.not_false,Ay,Option.some.injEq]at n2
      rw[<-n2]
     |true=>
      rw[hb]at n2
      simp only[Bool.not_true,Aj]at n2
      rw[Ce zq1,A75,A76]at n2
      simp only[Ab]at n2
      rw[Ai zq1,Ar]at n2
      simp only[Option.some.injEq]at n2
      rw[<-n2]
    obtain⟨_,l1,l2⟩:=Fa o3
    have hmv:=Bx1 (u:=n.1+5) ho o3 hN zq0
    refine⟨moved c e3 (n.1+5),p3,0,rfl,?_,hpn _ g1,fun h=>(h rfl).elim,fun _=>⟨ho,hmv,hn',hfo,hse,hsn,rfl,rfl,g1,g2,.inr ⟨hN,rfl,hs0,q3,k2⟩⟩⟩
    simp only[Aw,moved,List.length_nil];omega
   .simp only[show(z3 != (0:Int))=true by simpa using hz,Ay]
    exact nope z3 hz
  cases hold:c.2.2.2.2.2.2.2.2.2.2.2.2.1 with
  |false=>exact nxt
  |true=>
   simp only[Ay]
   obtain⟨v1,v2,v3⟩:=Apo f4 hold f6
   have old: ∃c' p z,(br (z2 != (0:Int)) (some (c,(([]:List YB),()),(z2,()))) (some ((c.1,c.2.1,c.2.2.1,c.2.2.2.1,c.2.2.2.2.1,c.2.2.2.2.2.1,c.2.2.2.2.2.2.1,e2.1,e2.2.1,e2.2.2.1,e2.2.2.2.1,e2.2.2.2.2.1,true,c.2.2.2.2.2.2.2.2.2.2.2.2.2.1,c.2.2.2.2.2.2.2.2.2.2.2.2.2.2.1,()),(p2,()),((0:Int),()))))=some (c',(p,()),(z,()))/\ChO c n.1 f c' p z:=by
    by_cases hz:z2=0
    .subst hz
     simp only[show((0:Int) != (0:Int))=false from rfl,Aj]
     obtain⟨o1,o2,o3,o4,o5⟩:=E2.ok rfl
     obtain⟨g1,g2⟩:=pl (Fa o1).2.1 o5
     have hwo:=Bsw ho hold o3 (by rw[o2];rfl)
     refine⟨_,p2,0,rfl,?_⟩
     rw[show((c.1,c.2.1,c.2.2.1,c.2.2.2.1,c.2.2.2.2.1,c.2.2.2.2.2.1,c.2.2.2.2.2.2.1,e2.1,e2.2.1,e2.2.2.1,e2.2.2.2.1,e2.2.2.2.2.1,true,c.2.2.2.2.2.2.2.2.2.2.2.2.2.1,c.2.2.2.2.2.2.2.2.2.2.2.2.2.2.1,()):Aq)=Arr c e2 by simp only[Arr,hold]]
     exact⟨by simp only[Aw,Arr];omega,hpn _ g1,fun h=>(h rfl).elim,fun _=>⟨ho,hwo,hn',hfo,hse,hsn,rfl,rfl,g1,g2,.inl ⟨rfl,rfl,rfl,rfl⟩⟩⟩
    .simp only[show(z2 != (0:Int))=true by simpa using hz,Ay]
     exact nope z2 hz
   cases q2:(f.2.2.2.2.2.2.2.1==c.2.2.2.2.2.2.2.1)with
   |false=>exact nxt
   |true=>
    simp only[Ay]
    cases (c.2.2.2.2.2.2.2.2.2.2.2.2.2.1 != (-1:Int))with
    |false=>exact old
    |true=>
     simp only[Ay]
     cases decide (n.1>c.2.2.2.2.2.2.2.2.2.2.2.2.2.1)with
     |true=>exact nope 9 zq7
     |false=>exact old
theorem A5v (c:Aq) (n:YI) (f:As) (h:Aw c<=67000000) (h2:A5 f<=67108864) (w1:wfB f.2.2.2.1) (w2:wfB c.2.1):
  ∃c' p z,Ph c n f=some (c',(p,()),(z,()))/\Lu c n f=some (c',(p,()),(z,()))/\ChO c n.1 f c' p z:=by
 obtain⟨c',p,z,k1,k2⟩:=Bsx c n f h h2 w1 w2
 exact⟨c',p,z,(Bo8 c n f h h2 w1 w2).trans k1,k1,k2⟩
theorem Bg1 (c:Aq) (n:YI) (h:Aw c<=67000000): ∃k b,Abb c n=some ((k,()),(b,()))/\Ag6 c n=some ((k,()),(b,()))/\k.length<=Aw c/\(k.length=0\/k.length=32):=by
 have hc:=h
 simp only[Aw]at hc
 unfold Abb Aut Ag6 Atl
 simp only[Ad,Ae,Aa,Ag,List.length_nil,Nat.zero_add,List.nil_append]
 rw[Xq c Bd6 Bd7,Tw c]
 simp only[Ab]
 cases ho:Co c with
 |false=>exact⟨[],false,rfl,rfl,by simp,.inl rfl⟩
 |true=>
 obtain⟨f1,f2,f3,f4,f5⟩:=Ig ho
 obtain⟨f6,f7,f8⟩:=Fa f3
 simp only[Bool.not_true,Aj]
 rw[B0 _ zq2,B0 _ zq2,B0 _ zq2,Ai (p:=c.2.2.2.2.2.2.2.2.1.length<=4294967296) zq0,Ai (p:=c.2.2.2.1.length<=4294967296) zq0,Ai (p:=c.2.2.2.2.2.2.2.2.2.2.2.2.2.2.1.length<=4294967296) zq0]
 simp only[Ab,Ar]
 have none: ∃k b,some ((([]:List YB),()),(false,()))=some ((k,()),(b,()))/\some ((([]:List YB),()),(false,()))=some ((k,()),(b,()))/\k.length<=Aw c/\(k.length=0\/k.length=32):=⟨[],false,rfl,rfl,by simp,.inl rfl⟩
 have rest: ∃k b,br (n.1==c.2.2.1) (some ((c.2.2.2.1,()),(true,()))) (br (decide ((c.2.2.2.2.2.2.2.2.2.2.2.2.2.2.1.length:Int)>(0:Int))) (br (n.1==IntKind.i64.wrap (c.2.2.1+(1:Int))) (some ((c.2.2.2.2.2.2.2.2.2.2.2.2.2.2.1,()),(true,()))) (some (([],()),(false,())))) (some (([],()),(false,()))))=some ((k,()),(b,()))/\br (n.1==c.2.2.1) (some ((c.2.2.2.1,()),(true,()))) (br (decide ((c.2.2.2.2.2.2.2.2.2.2.2.2.2.2.1.length:Int)>(0:Int))) (br (n.1==IntKind.i64.wrap (c.2.2.1+(1:Int))) (some ((c.2.2.2.2.2.2.2.2.2.2.2.2.2.2.1,()),(true,()))) (some (([],()),(false,())))) (some (([],()),(false,()))))=some ((k,()),(b,()))/\k.length<=Aw c/\(k.length=0\/k.length=32):=by
  cases (n.1==c.2.2.1)with
  |true=>exact⟨_,true,rfl,rfl,by simp only[Aw];omega,.inr f7⟩
  |false=>
   simp only[Aj]
   cases decide ((c.2.2.2.2.2.2.2.2.2.2.2.2.2.2.1.length:Int)>(0:Int))with
   |false=>exact none
   |true=>
    simp only[Ay]
    cases (n.1==IntKind.i64.wrap (c.2.2.1+(1:Int)))with
    |false=>exact none
    |true=>exact⟨_,true,rfl,rfl,by simp only[Aw];omega,f5.imp id fun q=>q.2.1⟩
 cases hold:c.2.2.2.2.2.2.2.2.2.2.2.2.1 with
 |false=>exact rest
 |true=>
  simp only[Ay]
  obtain⟨v1,v2,v3⟩:=Apo f4 hold f6
  cases (n.1==c.2.2.2.2.2.2.2.1)with
  |true=>exact⟨_,true,rfl,rfl,by simp only[Aw];omega,.inr (Fa v1).2.1⟩
  |false=>exact rest
def Hf (k s b:List YB):Am:=((16:Int),(0:Int),(0:Int),[],s,(0:Int),(0:Int),b,k,(0:Int),(0:Int),(0:Int),())
theorem Ars (k s b:List YB) (h1:k.length<=4294967296) (h2:s.length<=4294967296) (h3:b.length<=4294967296):Akf (k,()) (s,()) (b,())=some (Hf k s b):=by
 unfold Akf A7j
 simp (disch:=first|omega|(dsimp only;omega)) only[Ae,Aa,B0,Ab]
 rfl
theorem Bl4 (k s b:List YB) (h1:k.length<=4294967296) (h2:s.length<=4294967296) (h3:b.length<=4294967296):Aj7 (k,()) (s,()) (b,())=some (Hf k s b):=by
 unfold Aj7 A6x
 simp only[Ag,Aa,List.length_nil,Nat.zero_add,List.nil_append]
 rw[Ai h1,Ai h2,Ai h3]
 rfl
theorem Bg2:I1 (List.replicate 32 ((0:Int),())):=⟨rfl,fun q x hx=>by
 rw[List.getElem?_replicate]at hx
 split at hx
 .simp only[Option.some.injEq]at hx;subst hx;exact⟨by decide,by decide⟩
 .cases hx⟩
theorem Bz6 (r:Nat):Ac8 (List.replicate 32 ((0:Int),())) r=false:=by
 unfold Ac8
 rw[List.getElem?_replicate]
 split<;>simp
theorem Bv1:Od Bbo=true:=by
 unfold Od
 simp only[Bool.and_eq_true]
 refine⟨by decide,⟨Ahj.2 fun q x hx=>by have:=Bg2.2 q x hx;omega,by rfl⟩,Apn.2 fun i hi=>?_,by rfl⟩
 rw[Ah1 (w:=Bbo) Bg2 (by show(0:Int)<= -1+1+(i:Nat);omega)]
 exact Bz6 _
def A2l (n:Int) (k:List YB):YEp:=(n,k,(0:Int),(-1:Int),List.replicate 32 ((0:Int),()),())
theorem Bg3 {n:Int} {k:List YB} (hn:0<=n/\n<=4294967295) (hk:k.length=32):Hi (A2l n k)=true:=by
 unfold Hi
 simp only[Bool.and_eq_true]
 exact⟨Bt.2 hn,by show((k.length:Int)==32)=true;rw[hk];rfl,(show inR 0 0 281474976710656=true by decide),Bv1⟩
theorem Bg4 (n:Int) (k:List YB) (hn:0<=n/\n<=4294967295) (hk:k.length=32):Pv (n,()) (k,())=some (A2l n k)/\Nb (n,()) (k,())=some (A2l n k):=by
 have q:((k.length:Int) != 32)=false:=by simp[hk]
 have r:inR n 0 4294967295=true:=Bt.2 hn
 unfold Pv Alu Nb Aeu
 simp only[Ad,Ae,Aa,Ag,Cf,C4,Ab,A75,A76,List.nil_append,List.length_nil,Nat.zero_add,r,Bool.not_true,Aj,q]
 rw[B0 _ zq2,Ai zq0]
 exact⟨rfl,rfl⟩
def A78 (r:Int) (sn k:List YB):Aq:=(r,sn,(0:Int),k,(0:Int),(-1:Int),List.replicate 32 ((0:Int),()),(0:Int),[],(0:Int),(0:Int),[],false,(0:Int),[],())
theorem Bo9 (r:Int) (sn k:List YB) (hr:r=0\/r=1) (hs:sn.length=12) (hk:k.length=32):Wc (r,()) (sn,()) (k,())=some (A78 r sn k)/\R8 (r,()) (sn,()) (k,())=some (A78 r sn k):=by
 obtain⟨e1,e2⟩:=Bg4 0 k zq0 hk
 have q:((k.length:Int) != 32)=false:=by simp[hk]
 have q1:((sn.length:Int)==12)=true:=by simp[hs]
 have q2:((sn.length:Int) != 12)=false:=by simp[hs]
 have q3:inR r 0 1=true:=Bt.2 zq0
 unfold Wc Ad8 R8 Adv
 simp only[Ad,Ae,Aa,Ag,Ac4,C4,Hp,Ab,Ahx,List.nil_append,List.length_nil,Nat.zero_add,q,q1,q2,q3,Bool.not_true,Aj]
 rw[B0 _ zq2,Ai zq0,e1,e2]
 exact⟨rfl,rfl⟩
theorem Bpa {r:Int} {sn k:List YB} (hr:r=0\/r=1) (hs:sn.length=12) (hk:k.length=32):Co (A78 r sn k)=true:=by
 unfold Co
 simp only[Bool.not_not,Bool.and_eq_true,Bool.or_eq_true,beq_iff_eq]
 refine⟨hr,by show(sn.length:Int)=12;omega,Bg3 (n:=0) zq0 hk,?_,.inl rfl⟩
 unfold Qq
 rfl
theorem A2m {k l:List YB} (h1:l.length<=100) (h2:k.length<=1048576):(Jl k l).length=32:=by
 unfold Jl Qt
 rw[if_pos ⟨h1,h2⟩]
 exact Sd _ _ h2 zq1
def B2z:List YB:=L8 (Hg [102,105,110,105,115,104])
def Bsy:List YB:=[((114:Int),()),((111:Int),()),((97:Int),()),((109:Int),())]
def Jn (p:List YB):List YB:=bif L6 (p,())then Jl (Hw Bsy p) B2z else []
theorem App (p:List YB):W4 (p,())=some (Jn p,()):=by
 unfold W4 Afz Aeg Ad5 Jn
 simp only[Ad,Ae,Aa,A3p,Ab]
 rw[Arl,Ab,Ab,A73 _ _ zq7,Ab]
 cases L6 (p,())<;>rfl
theorem A5w (p:List YB):W0 (p,())=some (Jn p,()):=by
 unfold W0 Afm Aed Adt Jn
 simp only[Ad,Ae,Aa,Arn,Ab]
 rw[Arm,Ab,Ab,A74 _ _ zq7,Ab]
 cases L6 (p,())<;>rfl
theorem A2n {p:List YB} (h:L6 (p,())=true):(Jn p).length=32:=by
 unfold Jn
 rw[h]
 have hl:(Hw Bsy p).length<=32:=by rcases Awq Bsy p with q|q<;>omega
 exact A2m zq7 zq0
def T6 (id:Int) (cn sn:List YB) (tick:Int) (ck:List YB):Bool:=inR id 1 9 && (((cn.length:Int)==12) && (((sn.length:Int)==12) && (inR tick 0 1000000 && ((ck.length:Int)==16))))
def Hs (id:Int) (cn sn:List YB) (tick:Int) (ck:List YB):List YB:=bif T6 id cn sn tick ck then((102:Int),())::(IntKind.u8.wrap id,())::(cn++(sn++(Fj tick 4 4++ck)))else []
theorem Apq (id:Int) (cn sn:List YB) (tick:Int) (ck:List YB):W5 (id,()) (cn,()) (sn,()) (tick,()) (ck,())=some (Hs id cn sn tick ck,()):=by
 unfold W5 Af1 Hs T6
 simp only[Ad,Ae,Aa,Cf,Hp,Ab,bne]
 cases inR id 1 9 with
 |false=>rfl
 |true=>
  cases h1:((cn.length:Int)==12)with
  |false=>rfl
  |true=>
   cases h2:((sn.length:Int)==12)with
   |false=>rfl
   |true=>
    cases inR tick 0 1000000 with
    |false=>rfl
    |true=>
     cases h3:((ck.length:Int)==16)with
     |false=>rfl
     |true=>
      have k1:(cn.length:Int)=12:=by simpa using h1
      have k2:(sn.length:Int)=12:=by simpa using h2
      have k3:(ck.length:Int)=16:=by simpa using h3
      simp only[Bool.not_true,Aj,Bool.and_true,cond_true]
      rw[Pm _ _ zq3,Ab,Hj _ zq6 zq3,Ab]
      simp[cat]
theorem A5x (id:Int) (cn sn:List YB) (tick:Int) (ck:List YB):W1 (id,()) (cn,()) (sn,()) (tick,()) (ck,())=some (Hs id cn sn tick ck,()):=by
 unfold W1 Afo Hs T6
 simp only[Ad,Ae,Aa,Ag,C4,Ab,bne]
 cases inR id 1 9 with
 |false=>rfl
 |true=>
  cases h1:((cn.length:Int)==12)with
  |false=>rfl
  |true=>
   cases h2:((sn.length:Int)==12)with
   |false=>rfl
   |true=>
    cases inR tick 0 1000000 with
    |false=>rfl
    |true=>
     cases h3:((ck.length:Int)==16)with
     |false=>rfl
     |true=>
      have k1:(cn.length:Int)=12:=by simpa using h1
      have k2:(sn.length:Int)=12:=by simpa using h2
      have k3:(ck.length:Int)=16:=by simpa using h3
      simp only[Bool.not_true,Aj,Bool.and_true,cond_true]
      rw[Ai zq1,Ar,Ai zq1,Ar,Lh _ _ zq1,Ab]
      simp only
      rw[Ai zq4,Ar]
      simp
theorem Ayp {id:Int} {cn sn:List YB} {tick:Int} {ck:List YB}:(Hs id cn sn tick ck).length=bif T6 id cn sn tick ck then 46 else 0:=by
 unfold Hs
 cases h:T6 id cn sn tick ck with
 |false=>rfl
 |true=>
  unfold T6 at h
  simp only[Bool.and_eq_true,beq_iff_eq]at h
  simp[Fe];omega
def Art (p:List YB) (id:Int) (cn sn:List YB) (tick:Int) (ck:List YB):List YB:=if (Jn p).length=0\/(Hs id cn sn tick ck).length=0 then []else Abs (Jn p) (Hs id cn sn tick ck)
theorem Bp9 (p:List YB) (id:Int) (cn sn:List YB) (tick:Int) (ck:List YB):A1w (p,()) (id,()) (cn,()) (sn,()) (tick,()) (ck,())=some (Art p id cn sn tick ck,()):=by
 unfold A1w A0t Art
 simp only[Ad,Ae,Aa,App,Apq,Bi9,Ab]
 by_cases h1:(Jn p).length=0
 .rw[Dj (by simp[h1]),if_pos (.inl h1)]
 .rw[Ce (by simp;exact fun e=>h1 (by simp[e]))]
  by_cases h2:(Hs id cn sn tick ck).length=0
  .rw[Dj (by simp[h2]),if_pos (.inr h2)]
  .rw[Ce (by simp;exact fun e=>h2 (by simp[e])),if_neg (by rintro(q|q);exact h1 q;exact h2 q)]
theorem Bz7 (p:List YB) (id:Int) (cn sn:List YB) (tick:Int) (ck:List YB):A1r (p,()) (id,()) (cn,()) (sn,()) (tick,()) (ck,())=some (Art p id cn sn tick ck,()):=by
 unfold A1r Azx Art
 simp only[Ad,Ae,Aa,A5w,A5x,Bja,Ab]
 by_cases h1:(Jn p).length=0
 .rw[Dj (by simp[h1]),if_pos (.inl h1)]
 .rw[Ce (by simp;exact fun e=>h1 (by simp[e]))]
  by_cases h2:(Hs id cn sn tick ck).length=0
  .rw[Dj (by simp[h2]),if_pos (.inr h2)]
  .rw[Ce (by simp;exact fun e=>h2 (by simp[e])),if_neg (by rintro(q|q);exact h1 q;exact h2 q)]
theorem Bl5 {f:As} (h:Bm f=true) (hk:f.1=2):f.2.2.1.length=12/\f.2.2.2.1.length=12/\(0<=f.2.2.2.2.1/\f.2.2.2.2.1<=1000000)/\f.2.2.2.2.2.1.length=16/\f.2.1=0/\f.2.2.2.2.2.2.1.length=0/\f.2.2.2.2.2.2.2.1=0/\f.2.2.2.2.2.2.2.2.1=0/\f.2.2.2.2.2.2.2.2.2.1.length=0/\f.2.2.2.2.2.2.2.2.2.2.1.length=0:=by
 unfold Bm at h
 rw[hk]at h
 simp only[show inR 2 4 8=false by decide,cond_false,show((2:Int)==1)=false by decide,show((2:Int)==2)=true by decide,cond_true,Bool.and_eq_true,beq_iff_eq,Bt]at h
 omega
def A3s (l:List YB) (n:Int):Bool:=((l.length:Int)==0) || ((l.length:Int)==n)
def Kf (n:Am):Bool:=inR n.1 1 17 && (inR n.2.1 0 9 && (inR n.2.2.1 0 1 && (inR n.2.2.2.2.2.1 0 4294967295 && (inR n.2.2.2.2.2.2.1 0 281474976710655 && (inR n.2.2.2.2.2.2.2.2.2.2.2.1 0 1000000 &&
 (A3s n.2.2.2.1 12 && (A3s n.2.2.2.2.1 12 && (decide ((n.2.2.2.2.2.2.2.1.length:Int)<=100) && (A3s n.2.2.2.2.2.2.2.2.1 32 && Ck (n.2.2.2.2.2.2.2.2.2.1,n.2.2.2.2.2.2.2.2.2.2.1,()))))))))))
theorem Kp {n:Am}:Kf n=true↔(1<=n.1/\n.1<=17)/\(0<=n.2.1/\n.2.1<=9)/\(0<=n.2.2.1/\n.2.2.1<=1)/\(0<=n.2.2.2.2.2.1/\n.2.2.2.2.2.1<=4294967295)/\(0<=n.2.2.2.2.2.2.1/\n.2.2.2.2.2.2.1<=281474976710655)/\(0<=n.2.2.2.2.2.2.2.2.2.2.2.1/\n.2.2.2.2.2.2.2.2.2.2.2.1<=1000000)/\
  (n.2.2.2.1.length=0\/n.2.2.2.1.length=12)/\(n.2.2.2.2.1.length=0\/n.2.2.2.2.1.length=12)/\n.2.2.2.2.2.2.2.1.length<=100/\(n.2.2.2.2.2.2.2.2.1.length=0\/n.2.2.2.2.2.2.2.2.1.length=32)/\Ck (n.2.2.2.2.2.2.2.2.2.1,n.2.2.2.2.2.2.2.2.2.2.1,())=true:=by
 unfold Kf A3s
 simp only[Bool.and_eq_true,Bool.or_eq_true,beq_iff_eq,Bt,decide_eq_true_eq]
 constructor
 .rintro⟨a,b,c,d,e,f,g,h,i,j,k⟩
  exact⟨a,b,c,d,e,f,by omega,by omega,by omega,by omega,k⟩
 .rintro⟨a,b,c,d,e,f,g,h,i,j,k⟩
  exact⟨a,b,c,d,e,f,by omega,by omega,by omega,by omega,k⟩
theorem Bbv:Ck ((0:Int),(0:Int),())=true:=by decide
theorem Wm (r:Int) (f:As):(Dx r f).length<=65:=by
 have hh:=Qa r f.2.2.2.1 f.2.2.2.2.2.2.2.1 f.2.2.2.2.2.2.2.2.1
 have hle:(Ek r f.2.2.2.1 f.2.2.2.2.2.2.2.1 f.2.2.2.2.2.2.2.2.1).length<=23:=by rw[hh];cases Hr r f.2.2.2.1 f.2.2.2.2.2.2.2.1 f.2.2.2.2.2.2.2.2.1<;>simp
 unfold Dx
 cases h:(inR r 0 1 && (Bm f && inR f.1 4 8))with
 |false=>simp
 |true=>
  simp only[Bool.and_eq_true]at h
  have:=Vj h.2.1 h.2.2
  simp;omega
theorem Bl6 {k b:List YB} (h1:k.length=0\/k.length=32) (h2:b.length<=100):Kf (L7 k b)=true:=by
 rw[Kp]
 simp only[L7,List.length_nil]
 exact⟨by omega,by omega,by omega,by omega,by omega,by omega,.inl trivial,.inl trivial,h2,h1,Bbv⟩
theorem A79 {k s b:List YB} (h1:k.length=0\/k.length=32) (h2:s.length=0\/s.length=12) (h3:b.length<=100):Kf (Hf k s b)=true:=by
 rw[Kp]
 simp only[Hf,List.length_nil]
 exact⟨by omega,by omega,by omega,by omega,by omega,by omega,.inl trivial,h2,h3,h1,Bbv⟩
theorem Aww {c:Aq} {f:As} (h:Co c=true):Kf (Gl c f)=true:=
 Bl6 (.inr (Fa (Ig h).2.2.1).2.1) (Nat.le_trans (Wm _ _) zq0)
def Ht (l:List Am):Prop:=∀n∈l,Kf n=true
theorem Bl7 {p a b:List YB} (k:L6 (p,())=true) (h1:a.length=12) (h2:b.length=12):(N6 p a b 0).length=32:=by
 have hroot:(Li p a b).length=32:=by
  unfold Li
  have hp:inR (p.length:Int) 1 32=true:=k
  rw[if_pos ⟨hp,h1,h2⟩]
  have:=Bt.1 hp
  exact Sd _ _ zq1 zq0
 have hfirst:(I0 (Li p a b)).length=32:=by
  unfold I0
  rw[if_pos hroot]
  exact A2m zq7 zq0
 unfold N6
 rw[if_neg zq0]
 unfold Arq
 rw[if_pos zq0]
 exact hfirst
def A8a (a b:Int) (x:Av):Prop:=Ck (x.1,x.2.1,())=true/\eqA x.1 x.2.1 a b=false/\x.2.2.1.length=12/\(0<=x.2.2.2.1/\x.2.2.2.1<=1000006)
theorem K0 {a b:Int} {l:List Av}:Ei (a,b,l,())=true↔Ck (a,b,())=true/\l.length<=3/\(∀x∈l,A8a a b x)/\l.Pairwise (fun y x=>eqA y.1 y.2.1 x.1 x.2.1=false):=by
 have key:Dz (Vf a b l) l=true↔(∀x∈l,A8a a b x)/\l.Pairwise (fun y x=>eqA y.1 y.2.1 x.1 x.2.1=false):=by
  rw[Hq,List.pairwise_iff_getElem]
  unfold Vf A8a
  simp only[Bool.not_eq_false',Bool.and_eq_true,Bool.not_eq_true',beq_iff_eq,Bt,Hq]
  constructor
  .intro h
   refine⟨fun x hx=>?_,fun i j hi hj hij=>?_⟩
   .obtain⟨j,hj⟩:=List.getElem?_of_mem hx
    obtain⟨h1,h2,h3,h4,_⟩:=h j x hj
    exact⟨h1,h2,by omega,h4⟩
   .obtain⟨_,_,_,_,h5⟩:=h j l[j] (List.getElem?_eq_getElem hj)
    exact h5 i l[i] (by rw[List.getElem?_take,if_pos hij];exact List.getElem?_eq_getElem hi)
  .rintro⟨h1,h2⟩ j x hj
   obtain⟨g1,g2,g3,g4⟩:=h1 x (List.mem_of_getElem? hj)
   refine⟨g1,g2,by omega,g4,fun i y hi=>?_⟩
   rw[List.getElem?_take]at hi
   split at hi
   .rename_i hlt
    obtain⟨k1,k2⟩:=List.getElem?_eq_some_iff.1 hi
    obtain⟨k3,k4⟩:=List.getElem?_eq_some_iff.1 hj
    have:=h2 i j k1 k3 hlt
    rw[k2,k4]at this
    exact this
   .cases hi
 unfold Ei
 simp only[Bool.and_eq_true,Bool.not_eq_true',decide_eq_false_iff_not,key]
 constructor
 .rintro⟨h1,h2,h3⟩;exact⟨h1,by omega,h3⟩
 .rintro⟨h1,h2,h3⟩;exact⟨h1,by omega,h3⟩
def atA (a b:Int) (x:Av):Bool:=eqA x.1 x.2.1 a b
theorem Aru {a b c d:Int}:eqA a b c d=true↔a=c/\b=d:=by unfold eqA;simp
theorem Akv (p:Bd) (a:A6) (h:p.2.2.1.length<=4294967296):Ahe p a=some (L9 (atA a.1 a.2.1) p.2.2.1,()):=by
 obtain⟨b,d,l,⟨⟩⟩:=p
 simp only at h
 have hl:=Pz (B:=Tf) l (fun i=>(l,(l.length:Int),(i:Int),a.1,a.2.1,())) (fun _ x=>atA a.1 a.2.1 x) (fun i=>((i:Int),())) ()
  (fun i x hi hx=>by
   unfold Tf
   simp (disch:=omega) only[Ad,Ae,Aa,Bw hi,Ay,Bc hx,Ab,w64]
   rfl)
  (by unfold Tf;simp only[Ad,Aa,B7,Aj])
 unfold Ahe Auv
 simp only[Ae,Aa,Az]
 rw[show((0:Int))=((0:Nat):Int)from rfl,hl]
 exact A19 _ _
theorem Bv2 {p:Bd} {n:Int} (h:Ei p=true):Ei (Eg p n)=true:=by
 obtain⟨a,b,l,⟨⟩⟩:=p
 obtain⟨h1,h2,h3,h4⟩:=K0.1 h
 refine K0.2 ⟨h1,?_,fun x hx=>h3 x ((List.mem_filter.1 hx).1),h4.filter _⟩
 have:=List.length_filter_le (Nn n) l
 exact Nat.le_trans this h2
def OfH (p:Bd) (n:Int) (p':Bd) (b:Bool):Prop:=(b=false->p'=p)/\A8 p'<=A8 p+50/\(b=true->Ei p=true/\Ei p'=true)
theorem L3 (p:Bd) (n:YI) (a:A6) (d:YBs) (h:A8 p<=4294967296): ∃p' b,Df p n a d=some (p',(b,()))/\E8 p n a d=some (p',(b,()))/\OfH p n.1 p' b:=by
 have h':=h
 have hl0:p.2.2.1.length<=A8 p:=by simp only[A8];omega
 obtain⟨d,⟨⟩⟩:=d
 have nope: ∃p' b,some (p,(false,()))=some (p',(b,()))/\some (p,(false,()))=some (p',(b,()))/\OfH p n.1 p' b:=⟨p,false,rfl,rfl,fun _=>rfl,by omega,fun h=>by cases h⟩
 unfold Df Ae0 E8 Az5
 simp only[Ad,Ae,Aa,Ag,Az]
 rw[Zm p zq0,Ama p zq0,Cf,C4,Ic,Lz,Hp,N5 p h,Zo p h,Xv p n h,Bsu p n h]
 simp only[Ab,bne]
 cases ho:Ei p with
 |false=>exact nope
 |true=>
 simp only[Bool.not_true,Aj]
 cases hn:inR n.1 0 1000000 with
 |false=>exact nope
 |true=>
 simp only[Bool.not_true,Aj]
 cases ha:Ck a with
 |false=>exact nope
 |true=>
 simp only[Bool.not_true,Aj]
 cases hd:((d.length:Int)==12)with
 |false=>exact nope
 |true=>
 simp only[Bool.not_true,Aj]
 cases hat:(and (a.1==p.1) (and (a.2.1==p.2.1) true))with
 |true=>exact nope
 |false=>
 simp only[Aj]
 have ht:T5 p n.1=Eg p n.1:=by unfold T5;rw[ho,hn];rfl
 rw[ht]
 have hd':d.length=12:=by have:=eq_of_beq hd;omega
 have hn':=Bt.1 hn
 have htn:=A5u p n.1
 have hto:=Bv2 (n:=n.1) ho
 have htl:(Eg p n.1).2.2.1.length<=A8 (Eg p n.1):=by simp only[A8];omega
 have h1:(Eg p n.1).1=p.1:=rfl
 have h2:(Eg p n.1).2.1=p.2.1:=rfl
 rw[Akv _ _ zq0]
 simp only[Ab]
 have hs:=Pz (B:=Rv) (Eg p n.1).2.2.1 (fun i=>(n.1,d,(i:Int),p.1,p.2.1,p.2.2.1,a.1,a.2.1,(0:Int),(0:Int),([]:List Av),(Eg p n.1).1,(Eg p n.1).2.1,(Eg p n.1).2.2.1,())) (fun _ x=>atA a.1 a.2.1 x) (fun _=>(false,p.1,p.2.1,p.2.2.1,())) (n.1,d,p.1,p.2.1,p.2.2.1,a.1,a.2.1,(0:Int),(0:Int),([]:List Av),(Eg p n.1).1,(Eg p n.1).2.1,(Eg p n.1).2.2.1,())
  (fun i x hi hx=>by
   unfold Rv
   simp (disch:=omega) only[Ad,Ae,Aa,Bw hi,Ay,Bc hx,Ab,w64]
   rw[show D5 (p.1,p.2.1,p.2.2.1,())=some p from Zo p h]
   rfl)
  (by unfold Rv;simp only[Ad,Aa,B7,Aj])
 rw[show Ax Rv (n.1,d,(0:Int),p.1,p.2.1,p.2.2.1,a.1,a.2.1,(0:Int),(0:Int),([]:List Av),(Eg p n.1).1,(Eg p n.1).2.1,(Eg p n.1).2.2.1,())=_ from hs]
 simp only[Ab]
 unfold L9
 cases hf:Id (fun _ x=>atA a.1 a.2.1 x) (Eg p n.1).2.2.1 0 with
 |some k=>
  simp only[Option.elim,B1t]
  simp only[show((k:Int)≥0)=True from eq_true zq0,decide_true,Ay]
  exact nope
 |none=>
  simp only[Option.elim,A7y]
  simp only[show((-1:Int)≥0)=False from eq_false zq0,decide_false,Aj]
  rw[show D5 (p.1,p.2.1,p.2.2.1,())=some p from Zo p h]
  simp only[Ab]
  cases hk:(((Eg p n.1).2.2.1.length:Int)==3)with
  |true=>exact nope
  |false=>
  simp only[Aj]
  have hp: ∃l,Eg p n.1=(p.1,p.2.1,l,()):=⟨_,rfl⟩
  obtain⟨l,hl⟩:=hp
  rw[hl]at hto hf hk htn htl ⊢
  obtain⟨q1,q2,q3,q4⟩:=K0.1 hto
  simp only at hf hk htl ⊢
  have hk': ¬(l.length:Int)=3:=by simpa using hk
  rw[B0 _ zq2]
  simp only[Ab,List.nil_append,List.length_nil,Nat.zero_add,List.length_cons]
  rw[Ai zq0,Ai zq0,Ar,Ar,w64 zq0]
  refine⟨_,true,rfl,rfl,fun h=>(by cases h),?_,fun _=>⟨ho,K0.2 ⟨q1,?_,?_,?_⟩⟩⟩
  .simp only[A8]at htn ⊢
   simp only[A8,List.length_append,List.length_cons,List.length_nil,Iz,Af,Bh]
   omega
  .simp only[List.length_append,List.length_cons,List.length_nil];omega
  .intro x hx
   rcases List.mem_append.1 hx with hx|hx
   .exact q3 x hx
   .simp only[List.mem_singleton]at hx
    subst hx
    exact⟨ha,hat,hd',by dsimp only;omega⟩
  .rw[List.pairwise_append]
   refine⟨q4,List.pairwise_singleton _ _,fun x hx y hy=>?_⟩
   simp only[List.mem_singleton]at hy
   subst hy
   obtain⟨j,hj⟩:=List.getElem?_of_mem hx
   have:=Ae6.1 hf j x hj
   exact this
theorem Bl8 {E:Type} {q:E->Bool} {l:List E} {i:Nat} {x:E} (hx:l[i]? =some x) (hq:q x=false) (h: ∀j y,j≠i->l[j]? =some y->q y=true):l.filter q=l.take i++l.drop (i+1):=by
 obtain⟨hi,he⟩:=List.getElem?_eq_some_iff.1 hx
 have e:l=l.take i++(l[i]::l.drop (i+1)):=by rw[<-List.drop_eq_getElem_cons hi,List.take_append_drop]
 have h1:(l.take i).filter q=l.take i:=by
  rw[List.filter_eq_self]
  intro y hy
  obtain⟨j,hj⟩:=List.getElem?_of_mem hy
  rw[List.getElem?_take]at hj
  split at hj
  .exact h j y zq0 hj
  .cases hj
 have h2:(l.drop (i+1)).filter q=l.drop (i+1):=by
  rw[List.filter_eq_self]
  intro y hy
  obtain⟨j,hj⟩:=List.getElem?_of_mem hy
  rw[List.getElem?_drop]at hj
  exact h (i+1+j) y zq0 hj
 conv=>lhs;rw[e]
 rw[List.filter_append,List.filter_cons_of_neg (by rw[he,hq];simp),h1,h2]
theorem A2o (p:Bd) (n:YI) (a:A6) (d:YBs) (h:A8 p<=4294967296): ∃p' b,Qn p n a d=some (p',(b,()))/\Ag7 p n a d=some (p',(b,()))/\OfH p n.1 p' b:=by
 have h':=h
 have hl0:p.2.2.1.length<=A8 p:=by simp only[A8];omega
 obtain⟨d,⟨⟩⟩:=d
 have nope: ∃p' b,some (p,(false,()))=some (p',(b,()))/\some (p,(false,()))=some (p',(b,()))/\OfH p n.1 p' b:=⟨p,false,rfl,rfl,fun _=>rfl,by omega,fun h=>by cases h⟩
 unfold Qn Ag3 Ag7 Atn Bba Atm
 simp only[Ad,Ae,Aa,Ag,Az]
 rw[Zm p zq0,Ama p zq0,Cf,C4,N5 p h,Zo p h,Akv p a zq0]
 simp only[Ab,Ge,Tu]
 cases ho:Ei p with
 |false=>exact nope
 |true=>
 obtain⟨a1,a2,l,⟨⟩⟩:=p
 obtain⟨q1,q2,q3,q4⟩:=K0.1 ho
 simp only[A8]at h' hl0
 simp only[Bool.not_true,Aj]
 have hs:=Pz (B:=Oo) l (fun i=>((i:Int),a1,a2,l,a.1,a.2.1,(0:Int),(0:Int),([]:List YB),(0:Int),())) (fun _ x=>atA a.1 a.2.1 x) (fun i=>(true,(l[i]?.getD ((0:Int),(0:Int),[],(0:Int),())).1,(l[i]?.getD ((0:Int),(0:Int),[],(0:Int),())).2.1,(l[i]?.getD ((0:Int),(0:Int),[],(0:Int),())).2.2.1,(l[i]?.getD ((0:Int),(0:Int),[],(0:Int),())).2.2.2.1,())) ((0:Int),(0:Int),([]:List YB),(0:Int),())
  (fun i x hi hx=>by
   have hnx:=Gj (f:=Bh) hx
   unfold Oo
   simp (disch:=omega) only[Ad,Ae,Aa,Bw hi,Ay,Bc hx,Ab,w64]
   rw[Amb _ zq0,hx]
   rfl)
  (by unfold Oo;simp only[Ad,Aa,B7,Aj])
 rw[show Ax Oo ((0:Int),a1,a2,l,a.1,a.2.1,(0:Int),(0:Int),([]:List YB),(0:Int),())=_ from hs]
 simp only[Ab]
 unfold L9
 cases hf:Id (fun _ x=>atA a.1 a.2.1 x) l 0 with
 |none=>
  simp only[Option.elim,A7y,Ab]
  cases inR n.1 0 1000000 with
  |false=>exact nope
  |true=>exact nope
 |some k=>
  obtain⟨j,x,hkj,hx,hq,hbef⟩:=Tx hf
  rw[Nat.zero_add]at hkj
  subst hkj
  have hxi:=(List.getElem?_eq_some_iff.1 hx).1
  have hxm:=List.mem_of_getElem? hx
  simp only[Option.elim,B1t,Ab,hx,Option.getD_some,Bool.not_true,Aj]
  cases hn:inR n.1 0 1000000 with
  |false=>exact nope
  |true=>
  simp only[Bool.not_true,Aj]
  simp only[show((k:Int)<0)=False from eq_false zq0,decide_false,Aj,Bc hx,Ab]
  rw[show Cm x.2.2.1 d=Cm d x.2.2.1 by unfold Cm;exact decide_eq_decide.2 ⟨Eq.symm,Eq.symm⟩]
  cases hsd:Cm d x.2.2.1 with
  |false=>exact nope
  |true=>
  simp only[Bool.not_true,Aj]
  cases hu:decide (n.1>x.2.2.2.1)with
  |true=>exact nope
  |false=>
  simp only[Aj]
  have hother: ∀j y,j≠k->l[j]? =some y->(!atA a.1 a.2.1 y)=true:=by
   intro j y hj hy
   rw[Bool.not_eq_true']
   have e:=Aru.1 hq
   obtain⟨k1,k2⟩:=List.getElem?_eq_some_iff.1 hy
   obtain⟨k3,k4⟩:=List.getElem?_eq_some_iff.1 hx
   rw[List.pairwise_iff_getElem]at q4
   rcases Nat.lt_or_gt_of_ne hj with hlt|hgt
   .have:=hbef j y hlt hy
    exact this
   .have:=q4 k j k3 k1 hgt
    rw[k4,k2]at this
    cases hy':atA a.1 a.2.1 y with
    |false=>rfl
    |true=>
     have e2:=Aru.1 hy'
     rw[Aru.2 ⟨e.1.trans e2.1.symm,e.2.trans e2.2.symm⟩]at this
     cases this
  have hsp:=Bl8 hx (q:=fun y=> !atA a.1 a.2.1 y) (by show(!atA a.1 a.2.1 x)=false;rw[show atA a.1 a.2.1 x=true from hq];rfl) hother
  have hl:=C6 (B:=Oq) l.length (fun i=>((i:Int),a1,a2,l,a.1,a.2.1,(0:Int),(0:Int),([]:List Av),a.1,a.2.1,(l.take i).filter (fun y=> !atA a.1 a.2.1 y),())) ((0:Int),(0:Int),([]:List Av),a.1,a.2.1,l.filter (fun y=> !atA a.1 a.2.1 y),())
   (fun i hi=>by
    have hx:=List.getElem?_eq_getElem hi
    have hle:=A2i (p:=fun y=> !atA a.1 a.2.1 y) (l:=l) (i:=i)
    have hs:=Apj (p:=fun y=> !atA a.1 a.2.1 y) hx
    have hn:=Gj (f:=Bh) hx
    unfold Oq
    simp only[Ad,Ae,Aa,Ag,Bw hi,Ay,Bc hx,Ab]
    rw[w64 zq0,hs,Amb _ zq0]
    simp only[Ab]
    have hp:(!atA a.1 a.2.1 l[i])= !(and (l[i].1==a.1) (and (l[i].2.1==a.2.1) true)):=rfl
    rw[hp]
    cases (!(and (l[i].1==a.1) (and (l[i].2.1==a.2.1) true)))with
    |false=>simp[Aj]
    |true=>
     simp only[Ay,cond_true]
     rw[Ai zq1,Ar]
     rfl)
   (by unfold Oq;simp only[Ad,Aa,B7,Aj,List.take_length])
  rw[show Ax Oq ((0:Int),a1,a2,l,a.1,a.2.1,(0:Int),(0:Int),([]:List Av),a.1,a.2.1,([]:List Av),())=_ from hl]
  simp only[Ab]
  have w1:IntKind.i64.wrap ((k:Int)+1)=(k:Int)+1:=w64 zq0
  have w2:(((l.length:Nat):Int)).toNat=l.length:=by omega
  have w3:((k:Nat):Int).toNat=k:=by omega
  have w4:(((k:Nat):Int)+1).toNat=k+1:=by omega
  have w5:(l.take k).length+(l.drop (k+1)).length<=4294967296:=by simp only[List.length_take,List.length_drop];omega
  have w6:Nat.ble (l.take k).length (k+1)=true:=Nat.ble_eq_true_of_le (by simp only[List.length_take];omega)
  have w7:Nat.blt 0 l.length=true:=Nat.ble_eq_true_of_le zq0
  simp only[w1,hsp,show((0:Int)<=(k:Int))=True from eq_true zq0,show((k:Int)<=(l.length:Int))=True from eq_true zq0,show((0:Int)<=(k:Int)+1)=True from eq_true zq0,show((k:Int)+1<=(l.length:Int))=True from eq_true zq0,show((l.length:Int)<=(l.length:Int))=True from eq_true zq0,decide_true,Ar,w2,w3,w4,Int.toNat_zero,List.drop_zero,List.take_length,eq_true w5,w6,w7]
  rw[<-hsp]
  have e:=Aru.1 hq
  refine⟨_,true,rfl,rfl,fun h=>(by cases h),?_,fun _=>⟨ho,K0.2 ⟨?_,?_,?_,q4.filter _⟩⟩⟩
  .have h1:=List.length_filter_le (fun y=> !atA a.1 a.2.1 y) l
   have h2:=Apk (f:=Bh) (p:=fun y=> !atA a.1 a.2.1 y) (l:=l)
   simp only[A8];omega
  .have:=(q3 x hxm).1
   rw[e.1,e.2]at this
   exact this
  .have h1:=List.length_filter_le (fun y=> !atA a.1 a.2.1 y) l
   omega
  .intro y hy
   obtain⟨m1,m2⟩:=List.mem_filter.1 hy
   obtain⟨g1,g2,g3,g4⟩:=q3 y m1
   exact⟨g1,by have:atA a.1 a.2.1 y=false:=(by simpa using m2);exact this,g3,g4⟩
def Arv (c:Aq) (e:YEp):Aq:=(c.1,c.2.1,e.1,e.2.1,e.2.2.1,e.2.2.2.1,e.2.2.2.2.1,c.2.2.1,c.2.2.2.1,c.2.2.2.2.1,c.2.2.2.2.2.1,c.2.2.2.2.2.2.1,true,(-1:Int),c.2.2.2.2.2.2.2.2.2.2.2.2.2.2.1,())
theorem Bv3 {c:Aq} {e:YEp} (h:Co c=true) (hr:c.1=1) (he:Hi e=true) (h1:e.1=c.2.2.1+1):Co (Arv c e)=true:=by
 obtain⟨f1,f2,f3,f4,f5⟩:=Ig h
 have f6:=(Fa f3).1
 have f7:=(Fa he).1
 unfold Co at h ⊢
 simp only[Bool.not_not,Bool.and_eq_true]at h ⊢
 refine⟨h.1,h.2.1,he,?_,?_⟩
 .unfold Qq
  have hh:Abp (Arv c e)=true:=rfl
  rw[hh]
  simp only[Bool.not_true,cond_false,Bool.not_not,Bool.and_eq_true,Bool.or_eq_true,Bool.not_eq_true',bne_eq_false_iff_eq]
  refine⟨f3,?_,.inr ⟨rfl,by show(c.1==(1:Int))=true;rw[hr];rfl⟩⟩
  show c.2.2.1=IntKind.i64.wrap (e.1-1)
  have f6':0<=c.2.2.1/\c.2.2.1<=4294967295:=f6
  rw[w64 zq0];omega
 .rcases f5 with f5|f5
  .have:(((Nl (Arv c e)).length:Int)==0)=true:=by
    have e1:Nl (Arv c e)=c.2.2.2.2.2.2.2.2.2.2.2.2.2.2.1:=rfl
    rw[e1,f5];rfl
   rw[this];rfl
  .omega
def TuH (c:Aq) (c':Aq) (b:Bool):Prop:=(b=false->c'=c)/\Aw c'<=Aw c+200/\(b=true->Co c=true/\c.1=1/\Co c'=true/\c'.1=c.1/\c'.2.1=c.2.1)
theorem Bz8 (c:Aq) (h:Aw c<=67000000): ∃c' b,A7t c=some (c',(b,()))/\A7r c=some (c',(b,()))/\TuH c c' b:=by
 have nope: ∃c' b,some (c,(false,()))=some (c',(b,()))/\some (c,(false,()))=some (c',(b,()))/\TuH c c' b:=⟨c,false,rfl,rfl,fun _=>rfl,by omega,fun h=>by cases h⟩
 have hc:=h
 simp only[Aw]at hc
 unfold A7t A7l A7r A6z
 simp only[Ad,Ae,Aa]
 rw[Vi c zq0,T0 c zq0,Xq c Bd6 Bd7,Tw c,Bgw,Bgx]
 simp only[Ab]
 cases ho:Co c with
 |false=>exact nope
 |true=>
 simp only[Bool.not_true,Aj]
 cases hr:(c.1==(1:Int))with
 |false=>rw[show(c.1 != (1:Int))=true by unfold bne;rw[hr];rfl];exact nope
 |true=>
 rw[show(c.1 != (1:Int))=false by unfold bne;rw[hr];rfl,Aj,Aj]
 cases hm:(c.2.2.1==(4294967295:Int))with
 |true=>exact nope
 |false=>
 simp only[Aj]
 obtain⟨f1,f2,f3,f4,f5⟩:=Ig ho
 have f6:=(Fa f3).1
 have f6:0<=c.2.2.1/\c.2.2.1<=4294967295:=f6
 have f7:c.2.2.2.1.length=32:=(Fa f3).2.1
 have hm':c.2.2.1≠4294967295:=by simpa using hm
 have hk:(Jl c.2.2.2.1 Aro).length=32:=A2m zq7 zq0
 rw[w64 zq0]
 obtain⟨n1,n2⟩:=Bg4 (c.2.2.1+1) (Jl c.2.2.2.1 Aro) zq0 hk
 rw[n1,n2]
 refine⟨Arv c (A2l (c.2.2.1+1) (Jl c.2.2.2.1 Aro)),true,rfl,rfl,fun h=>(by cases h),?_,fun _=>⟨ho,eq_of_beq hr,Bv3 ho (eq_of_beq hr) (Bg3 zq0 hk) rfl,rfl,rfl⟩⟩
 simp only[Aw,Arv,A2l,List.length_replicate]
 omega
def HrH (c:Aq) (c':Aq) (z:Int):Prop:=(z≠0->c'=c)/\Aw c'<=Aw c+200/\(z=0->Co c=true/\c.1=1/\Co c'=true/\c'.1=c.1/\c'.2.1=c.2.1)
theorem A2p (c:Aq) (n:YI) (p:YBs) (h:Aw c<=67000000): ∃c' z,Rk c n p=some (c',(z,()))/\W3 c n p=some (c',(z,()))/\HrH c c' z:=by
 have nope: ∃c' z,some (c,((6:Int),()))=some (c',(z,()))/\some (c,((6:Int),()))=some (c',(z,()))/\HrH c c' z:=⟨c,6,rfl,rfl,fun _=>rfl,by omega,fun h=>by cases h⟩
 have hc:=h
 simp only[Aw]at hc
 obtain⟨t,b,t1,t2,t3,t4,t5⟩:=Bz8 c h
 unfold Rk Af4 W3 Afr
 simp only[Ad,Ae,Aa]
 rw[Vi c zq0,T0 c zq0,Xq c Bd6 Bd7,Tw c,Cf,C4,A5s,A5t,t1,t2]
 simp only[Ab,Ge,Tu]
 cases ho:Co c with
 |false=>exact nope
 |true=>
 simp only[Bool.not_true,Aj]
 cases hr:(c.1==(1:Int))with
 |false=>rw[show(c.1 != (1:Int))=true by unfold bne;rw[hr];rfl];exact nope
 |true=>
 rw[show(c.1 != (1:Int))=false by unfold bne;rw[hr];rfl,Aj,Aj]
 cases hn:inR n.1 0 4294967294 with
 |false=>exact nope
 |true=>
 simp only[Bool.not_true,Aj]
 cases hs:Cm p.1 (Abv (IntKind.i64.wrap (n.1+1)))with
 |false=>exact nope
 |true=>
 simp only[Bool.not_true,Aj]
 obtain⟨f1,f2,f3,f4,f5⟩:=Ig ho
 have f6:=(Fa f3).1
 have f6:0<=c.2.2.1/\c.2.2.1<=4294967295:=f6
 rw[w64 zq0]
 have same: ∃c' z,some (c,((0:Int),()))=some (c',(z,()))/\some (c,((0:Int),()))=some (c',(z,()))/\HrH c c' z:=⟨c,0,rfl,rfl,fun _=>rfl,by omega,fun _=>⟨ho,eq_of_beq hr,ho,rfl,rfl⟩⟩
 cases hA:(n.1==c.2.2.1-1)with
 |true=>
  have e1:=eq_of_beq hA
  rw[show(n.1==c.2.2.1)=false by simp;omega,Ay,Aj,Ay]
  exact same
 |false=>
  rw[Aj]
  cases hB:(n.1==c.2.2.1)with
  |false=>rw[show(n.1 != c.2.2.1)=true by unfold bne;rw[hB];rfl];exact nope
  |true=>
   rw[show(n.1 != c.2.2.1)=false by unfold bne;rw[hB];rfl,Aj,Ay]
   cases b with
   |false=>exact nope
   |true=>exact⟨t,0,rfl,rfl,fun h=>(h rfl).elim,t4,fun _=>t5 rfl⟩
def Jo (s:Al) (X:Aq) (P:Bd) (la:Int):Al:=(s.1,s.2.1,s.2.2.1,X.1,X.2.1,X.2.2.1,X.2.2.2.1,X.2.2.2.2.1,X.2.2.2.2.2.1,X.2.2.2.2.2.2.1,X.2.2.2.2.2.2.2.1,X.2.2.2.2.2.2.2.2.1,X.2.2.2.2.2.2.2.2.2.1,X.2.2.2.2.2.2.2.2.2.2.1,X.2.2.2.2.2.2.2.2.2.2.2.1,X.2.2.2.2.2.2.2.2.2.2.2.2.1,X.2.2.2.2.2.2.2.2.2.2.2.2.2.1,X.2.2.2.2.2.2.2.2.2.2.2.2.2.2.1,P.1,P.2.1,P.2.2.1,s.2.2.2.2.2.2.2.2.2.2.2.2.2.2.2.2.2.2.2.2.2.1,la,s.2.2.2.2.2.2.2.2.2.2.2.2.2.2.2.2.2.2.2.2.2.2.2.1,())
def SeH (s:Al) (m:Nat) (r:Al) (os:List Au) (ns:List Am):Prop:=Ap r<=Ap s+900/\os.length+Af Dv os<=4*(Ap s+m+900)/\ns.length+Af Db ns<=12*(Ap s+m+900)
theorem Bg5 (s:Al) (X:Aq) (P:Bd) (la:Int):Ap (Jo s X P la)+Aw (Cq s)+A8 (Bp s)=Ap s+Aw X+A8 P:=by
 simp only[Ap,Jo,Aw,Cq,A8,Bp];omega
theorem A5y (s:Al) (n:YI) (a:A6) (f:As) (d:YBs) (h:Ap s<=8388608) (h2:A5 f<=8388608) (h3:d.1.length<=8388608) (w1:wfB f.2.2.2.1) (w2:wfB (Cq s).2.1):
  ∃r os ns k,Jg s n a f d=some (r,(os,()),(ns,()),(k,()))/\Tk s n a f d=some (r,(os,()),(ns,()),(k,()))/\SeH s (A5 f+d.1.length) r os ns:=by
 have none: ∃r os ns k,some (s,(([]:List Au),()),(([]:List Am),()),(false,()))=some (r,(os,()),(ns,()),(k,()))/\some (s,(([]:List Au),()),(([]:List Am),()),(false,()))=some (r,(os,()),(ns,()),(k,()))/\SeH s (A5 f+d.1.length) r os ns:=⟨s,[],[],false,rfl,rfl,by omega,by simp[Af],by simp[Af]⟩
 have hch:=Ael s
 have hpa:=A2j s
 have hck:=En (Cq s)
 have hsl:s.2.2.1.length<=Ap s:=by simp only[Ap];omega
 have htl:=Wm 0 f
 obtain⟨ch,p,z,o1,o2,O1,O2,O3,O4⟩:=A5v (Cq s) n f zq0 zq0 w1 w2
 obtain⟨k,kb,y1,y2,y3,y4⟩:=Bg1 (Cq s) (f.2.2.2.2.2.2.2.1,()) zq0
 have hchk:=En ch
 unfold Jg Aay Tk Aiv
 simp only[Ad,Ae,Aa,Ag,Aq4,Aq5,Aco,Aq6,Aq7,Aq8,U1]
 rw[Nm s zq0,Amc s zq0,Xr s zq0,Awk s zq0,Ic,Lz]
 simp only[Ab]
 cases ho:C8 s with
 |false=>exact none
 |true=>
 simp only[Bool.not_true,Aj]
 by_cases hd0:s.2.2.2.2.2.2.2.2.2.2.2.2.2.2.2.2.2.2.2.2.2.2.2.1=true
 .rw[Dj hd0,Dj hd0];exact none
 have hd:s.2.2.2.2.2.2.2.2.2.2.2.2.2.2.2.2.2.2.2.2.2.2.2.1=false:=by simpa using hd0
 rw[Ce hd,Ce hd]
 cases ha:Ck a with
 |false=>exact none
 |true=>
 simp only[Bool.not_true,Aj]
 rw[show Ph _ n f=some (ch,(p,()),(z,()))from o1,show Lu _ n f=some (ch,(p,()),(z,()))from o2,show Abb _ (f.2.2.2.2.2.2.2.1,())=some ((k,()),(kb,()))from y1,show Ag6 _ (f.2.2.2.2.2.2.2.1,())=some ((k,()),(kb,()))from y2,Vh _ _ zq0,Abu _ _ zq0]
 simp only[Ab]
 by_cases hz:z=0
 case neg=>
  rw[Dj (by simpa using hz),Dj (by simpa using hz)]
  exact none
 case pos=>
 subst hz
 rw[Ce (by rfl),Ce (by rfl),Ars _ _ _ zq0 zq0 zq0,Bl4 _ _ _ zq0 zq0 zq0]
 simp only[Ab]
 have d2:decide (s.2.2.1.length<=4294967296)=true:=Ai zq0
 have d4:decide (p.length<=4294967296)=true:=Ai zq0
 have tail: ∀(X:Aq) (P:Bd) (os:List Au) (ns:List Am) (p':Bd) (b:Bool) (y:Aq) (g:As) (zz:Int),Aw X<=Aw (Cq s)+400->A8 P<=A8 (Bp s)+50->Aw y<=Aw (Cq s)+400->A8 p'<=A8 (Bp s)+100->A5 g<=Ap s+d.1.length+432->
   os.length+Af Dv os<=2*(Ap s+(A5 f+d.1.length)+900)->ns.length+Af Db ns<=8*(Ap s+(A5 f+d.1.length)+900)->
   ∃r os' ns' k,br (!b) (some (Jo s X P n.1,(os,()),(ns,()),(false,()))) (br (zz != (0:Int)) (some (Jo s X P n.1,(os,()),(ns,()),(false,()))) (some (Jo s y p' n.1,(os++[(a.1,a.2.1,g.1,g.2.1,g.2.2.1,g.2.2.2.1,g.2.2.2.2.1,g.2.2.2.2.2.1,g.2.2.2.2.2.2.1,g.2.2.2.2.2.2.2.1,g.2.2.2.2.2.2.2.2.1,g.2.2.2.2.2.2.2.2.2.1,g.2.2.2.2.2.2.2.2.2.2.1,())],()),(ns++[Gl y g],()),(true,()))))=some (r,(os',()),(ns',()),(k,()))/\
    br (!b) (some (Jo s X P n.1,(os,()),(ns,()),(false,()))) (br (zz != (0:Int)) (some (Jo s X P n.1,(os,()),(ns,()),(false,()))) (some (Jo s y p' n.1,(os++[(a.1,a.2.1,g.1,g.2.1,g.2.2.1,g.2.2.2.1,g.2.2.2.2.1,g.2.2.2.2.2.1,g.2.2.2.2.2.2.1,g.2.2.2.2.2.2.2.1,g.2.2.2.2.2.2.2.2.1,g.2.2.2.2.2.2.2.2.2.1,g.2.2.2.2.2.2.2.2.2.2.1,())],()),(ns++[Gl y g],()),(true,()))))=some (r,(os',()),(ns',()),(k,()))/\SeH s (A5 f+d.1.length) r os' ns':=by
  intro X P os ns p' b y g zz h1 h2 h3 h4 h5 h6 h7
  have e1:=Bg5 s X P n.1
  have e2:=Bg5 s y p' n.1
  have e3:=Wm y.1 g
  have e4:=En y
  cases b with
  |false=>exact⟨_,_,_,_,rfl,rfl,by omega,by omega,by omega⟩
  |true=>
   simp only[Bool.not_true,Aj]
   cases hzz:(zz != (0:Int))with
   |true=>exact⟨_,_,_,_,rfl,rfl,by omega,by omega,by omega⟩
   |false=>
    refine⟨_,_,_,_,rfl,rfl,by omega,?_,?_⟩
    .simp only[Iz,Af,Dv,List.length_append,List.length_nil,List.length_cons]
     simp only[A5]at*
     omega
    .simp only[Iz,Af,List.length_append,List.length_nil,List.length_cons]
     have e5:Db (Gl y g)=y.2.2.2.1.length+(Dx y.1 g).length:=by simp only[Db,Gl,L7,List.length_nil];omega
     omega
 simp only[List.length_nil,List.nil_append,List.length_cons,Nat.zero_add,Nat.reduceLeDiff,decide_true,Ar]
 cases h4:(f.1==(4:Int))with
 |true=>
  simp (disch:=first|omega|(dsimp only;omega)) only[Ay,B0]
  obtain⟨p',b,of1,of2,OF1,OF2,OF3⟩:=L3 (Bp s) n a d zq0
  obtain⟨y,g,zz,g1,g2,e',GS1,GS2,GS3,_⟩:=Gf (ch) 5 d.1 zq0
  have hyk:=En y
  rw[show Df _ n a d=some (p',(b,()))from of1,show E8 _ n a d=some (p',(b,()))from of2,show Cj _ (5,()) d=some (y,g,(zz,()))from g1,show Di _ (5,()) d=some (y,g,(zz,()))from g2]
  simp only[Ab]
  rw[Ie y g zq0 zq0,Jm y g zq0 zq0]
  simp only[Ab,List.length_nil,List.nil_append,List.append_nil,List.length_cons,List.length_append,Nat.zero_add,Nat.reduceAdd,Nat.reduceLeDiff,decide_true,Ar,d2,d4]
  exact tail (ch) (Bp s) ([]) ([Hf k s.2.2.1 (Dx 0 f),((6:Int),(0:Int),(0:Int),([]:List YB),s.2.2.1,f.2.2.2.2.2.2.2.1,f.2.2.2.2.2.2.2.2.1,p,([]:List YB),(0:Int),(0:Int),n.1,())]) p' b y g zz zq0 zq0 zq0 zq0 zq0 (by simp only[Af,Dv,List.length_nil,List.length_cons];simp only[A5]at*;omega) (by simp only[Af,Db,Hf,Gl,L7,List.length_nil,List.length_cons];omega)
 |false=>
 simp only[Aj]
 cases h6:(f.1==(6:Int))with
 |true=>
  simp only[Ay]
  obtain⟨pa,ab,an1,an2,AN1,AN2,AN3⟩:=A2o (Bp s) n a (p,()) zq0
  rw[show Qn _ n a (p,())=some (pa,(ab,()))from an1,show Ag7 _ n a (p,())=some (pa,(ab,()))from an2]
  simp only[Ab]
  cases ab with
  |true=>
   simp (disch:=first|omega|(dsimp only;omega)) only[Ay,B0]
   obtain⟨p',b,of1,of2,OF1,OF2,OF3⟩:=L3 (pa) n a d zq0
   obtain⟨y,g,zz,g1,g2,e',GS1,GS2,GS3,_⟩:=Gf (ch) 5 d.1 zq0
   have hyk:=En y
   rw[show Df _ n a d=some (p',(b,()))from of1,show E8 _ n a d=some (p',(b,()))from of2,show Cj _ (5,()) d=some (y,g,(zz,()))from g1,show Di _ (5,()) d=some (y,g,(zz,()))from g2]
   simp only[Ab]
   rw[Ie y g zq0 zq0,Jm y g zq0 zq0]
   simp only[Ab,List.length_nil,List.nil_append,List.append_nil,List.length_cons,List.length_append,Nat.zero_add,Nat.reduceAdd,Nat.reduceLeDiff,decide_true,Ar,d2,d4]
   exact tail (ch) (pa) ([]) ([Hf k s.2.2.1 (Dx 0 f),((9:Int),(0:Int),(0:Int),([]:List YB),s.2.2.1,(0:Int),(0:Int),p,([]:List YB),a.1,a.2.1,n.1,())]) p' b y g zz zq0 zq0 zq0 zq0 zq0 (by simp only[Af,Dv,List.length_nil,List.length_cons];simp only[A5]at*;omega) (by simp only[Af,Db,Hf,Gl,L7,List.length_nil,List.length_cons];omega)
  |false=>
   simp only[Aj]
   obtain⟨p',b,of1,of2,OF1,OF2,OF3⟩:=L3 (Bp s) n a d zq0
   obtain⟨y,g,zz,g1,g2,e',GS1,GS2,GS3,_⟩:=Gf (ch) 5 d.1 zq0
   have hyk:=En y
   rw[show Df _ n a d=some (p',(b,()))from of1,show E8 _ n a d=some (p',(b,()))from of2,show Cj _ (5,()) d=some (y,g,(zz,()))from g1,show Di _ (5,()) d=some (y,g,(zz,()))from g2]
   simp only[Ab]
   rw[Ie y g zq0 zq0,Jm y g zq0 zq0]
   simp only[Ab,List.length_nil,List.nil_append,List.append_nil,List.length_cons,List.length_append,Nat.zero_add,Nat.reduceAdd,Nat.reduceLeDiff,decide_true,Ar,d2,d4]
   exact tail (ch) (Bp s) ([]) ([Hf k s.2.2.1 (Dx 0 f)]) p' b y g zz zq0 zq0 zq0 zq0 zq0 (by simp only[Af,Dv,List.length_nil,List.length_cons];simp only[A5]at*;omega) (by simp only[Af,Db,Hf,Gl,L7,List.length_nil,List.length_cons];omega)
 |false=>
 simp only[Aj]
 cases h7:(f.1==(7:Int))with
 |false=>
  simp only[Aj]
  obtain⟨p',b,of1,of2,OF1,OF2,OF3⟩:=L3 (Bp s) n a d zq0
  obtain⟨y,g,zz,g1,g2,e',GS1,GS2,GS3,_⟩:=Gf (ch) 5 d.1 zq0
  have hyk:=En y
  rw[show Df _ n a d=some (p',(b,()))from of1,show E8 _ n a d=some (p',(b,()))from of2,show Cj _ (5,()) d=some (y,g,(zz,()))from g1,show Di _ (5,()) d=some (y,g,(zz,()))from g2]
  simp only[Ab]
  rw[Ie y g zq0 zq0,Jm y g zq0 zq0]
  simp only[Ab,List.length_nil,List.nil_append,List.append_nil,List.length_cons,List.length_append,Nat.zero_add,Nat.reduceAdd,Nat.reduceLeDiff,decide_true,Ar,d2,d4]
  exact tail (ch) (Bp s) ([]) ([Hf k s.2.2.1 (Dx 0 f)]) p' b y g zz zq0 zq0 zq0 zq0 zq0 (by simp only[Af,Dv,List.length_nil,List.length_cons];simp only[A5]at*;omega) (by simp only[Af,Db,Hf,Gl,L7,List.length_nil,List.length_cons];omega)
 |true=>
 simp only[Ay]
 obtain⟨X,zr,r1,r2,R1,R2,R3⟩:=A2p ch (f.2.2.2.2.2.2.2.1,()) (p,()) zq0
 have hXk:=En X
 have d5:decide (X.2.2.2.1.length<=4294967296)=true:=Ai zq0
 unfold W7 Wz
 simp only[Ad,Ae,Aa,Ag]
 rw[show Rk _ (f.2.2.2.2.2.2.2.1,()) (p,())=some (X,(zr,()))from r1,show W3 _ (f.2.2.2.2.2.2.2.1,()) (p,())=some (X,(zr,()))from r2]
 simp only[Ab,bne]
 cases hzr:(zr==(0:Int))with
 |false=>
  simp only[Bool.not_false,Ay,Aj,Ab]
  obtain⟨p',b,of1,of2,OF1,OF2,OF3⟩:=L3 (Bp s) n a d zq0
  obtain⟨y,g,zz,g1,g2,e',GS1,GS2,GS3,_⟩:=Gf (ch) 5 d.1 zq0
  have hyk:=En y
  rw[show Df _ n a d=some (p',(b,()))from of1,show E8 _ n a d=some (p',(b,()))from of2,show Cj _ (5,()) d=some (y,g,(zz,()))from g1,show Di _ (5,()) d=some (y,g,(zz,()))from g2]
  simp only[Ab]
  rw[Ie y g zq0 zq0,Jm y g zq0 zq0]
  simp only[Ab,List.length_nil,List.nil_append,List.append_nil,List.length_cons,List.length_append,Nat.zero_add,Nat.reduceAdd,Nat.reduceLeDiff,decide_true,Ar,d2,d4]
  exact tail (ch) (Bp s) ([]) ([Hf k s.2.2.1 (Dx 0 f)]) p' b y g zz zq0 zq0 zq0 zq0 zq0 (by simp only[Af,Dv,List.length_nil,List.length_cons];simp only[A5]at*;omega) (by simp only[Af,Db,Hf,Gl,L7,List.length_nil,List.length_cons];omega)
 |true=>
 simp only[Bool.not_true,Ay,Aj]
 obtain⟨y',g',za,k1,k2,K1,K2,_⟩:=Bbr X zq0
 have hyk':=En y'
 have htl2:=Wm y'.1 g'
 rw[k1,k2]
 simp only[Ab]
 rw[Ie y' g' zq0 zq0,Jm y' g' zq0 zq0]
 cases hN:(X.2.2.1==ch.2.2.1)with
 |false=>
  simp (disch:=first|omega|(dsimp only;omega)) only[Bool.not_false,Ay,Aj,B0,Ab]
  cases hza:(za==(0:Int))with
  |true=>
   simp only[Bool.not_true,Ay,Aj,Ab,List.length_nil,List.nil_append,List.length_cons,List.length_append,Nat.zero_add,Nat.reduceAdd,Nat.reduceLeDiff,decide_true,Ar,d2,d5]
   obtain⟨p',b,of1,of2,OF1,OF2,OF3⟩:=L3 (Bp s) n a d zq0
   obtain⟨y,g,zz,g1,g2,e',GS1,GS2,GS3,_⟩:=Gf (y') 5 d.1 zq0
   have hyk:=En y
   rw[show Df _ n a d=some (p',(b,()))from of1,show E8 _ n a d=some (p',(b,()))from of2,show Cj _ (5,()) d=some (y,g,(zz,()))from g1,show Di _ (5,()) d=some (y,g,(zz,()))from g2]
   simp only[Ab]
   rw[Ie y g zq0 zq0,Jm y g zq0 zq0]
   simp only[Ab,List.length_nil,List.nil_append,List.append_nil,List.length_cons,List.length_append,Nat.zero_add,Nat.reduceAdd,Nat.reduceLeDiff,decide_true,Ar,d2,d4]
   exact tail (y') (Bp s) ([(s.2.2.2.2.2.2.2.2.2.2.2.2.2.2.2.2.2.2.1,s.2.2.2.2.2.2.2.2.2.2.2.2.2.2.2.2.2.2.2.1,g'.1,g'.2.1,g'.2.2.1,g'.2.2.2.1,g'.2.2.2.2.1,g'.2.2.2.2.2.1,g'.2.2.2.2.2.2.1,g'.2.2.2.2.2.2.2.1,g'.2.2.2.2.2.2.2.2.1,g'.2.2.2.2.2.2.2.2.2.1,g'.2.2.2.2.2.2.2.2.2.2.1,())]) ([Hf k s.2.2.1 (Dx 0 f),((10:Int),(0:Int),(1:Int),([]:List YB),s.2.2.1,X.2.2.1,(0:Int),([]:List YB),X.2.2.2.1,(0:Int),(0:Int),(0:Int),()),Gl y' g']) p' b y g zz zq0 zq0 zq0 zq0 zq0 (by simp only[Af,Dv,List.length_nil,List.length_cons];simp only[A5]at*;omega) (by simp only[Af,Db,Hf,Gl,L7,List.length_nil,List.length_cons];omega)
  |false=>
   simp only[Bool.not_false,Ay,Aj,Ab,List.length_nil,List.nil_append,List.length_cons,List.length_append,Nat.zero_add,Nat.reduceAdd,Nat.reduceLeDiff,decide_true,Ar,d2,d5]
   obtain⟨p',b,of1,of2,OF1,OF2,OF3⟩:=L3 (Bp s) n a d zq0
   obtain⟨y,g,zz,g1,g2,e',GS1,GS2,GS3,_⟩:=Gf (X) 5 d.1 zq0
   have hyk:=En y
   rw[show Df _ n a d=some (p',(b,()))from of1,show E8 _ n a d=some (p',(b,()))from of2,show Cj _ (5,()) d=some (y,g,(zz,()))from g1,show Di _ (5,()) d=some (y,g,(zz,()))from g2]
   simp only[Ab]
   rw[Ie y g zq0 zq0,Jm y g zq0 zq0]
   simp only[Ab,List.length_nil,List.nil_append,List.append_nil,List.length_cons,List.length_append,Nat.zero_add,Nat.reduceAdd,Nat.reduceLeDiff,decide_true,Ar,d2,d4]
   exact tail (X) (Bp s) ([]) ([Hf k s.2.2.1 (Dx 0 f),((10:Int),(0:Int),(1:Int),([]:List YB),s.2.2.1,X.2.2.1,(0:Int),([]:List YB),X.2.2.2.1,(0:Int),(0:Int),(0:Int),())]) p' b y g zz zq0 zq0 zq0 zq0 zq0 (by simp only[Af,Dv,List.length_nil,List.length_cons];simp only[A5]at*;omega) (by simp only[Af,Db,Hf,Gl,L7,List.length_nil,List.length_cons];omega)
 |true=>
  simp only[Bool.not_true,Ay,Aj,Ab]
  cases hza:(za==(0:Int))with
  |true=>
   simp only[Bool.not_true,Ay,Aj,Ab,List.length_nil,List.nil_append,List.length_cons,List.length_append,Nat.zero_add,Nat.reduceAdd,Nat.reduceLeDiff,decide_true,Ar,d2,d5]
   obtain⟨p',b,of1,of2,OF1,OF2,OF3⟩:=L3 (Bp s) n a d zq0
   obtain⟨y,g,zz,g1,g2,e',GS1,GS2,GS3,_⟩:=Gf (y') 5 d.1 zq0
   have hyk:=En y
   rw[show Df _ n a d=some (p',(b,()))from of1,show E8 _ n a d=some (p',(b,()))from of2,show Cj _ (5,()) d=some (y,g,(zz,()))from g1,show Di _ (5,()) d=some (y,g,(zz,()))from g2]
   simp only[Ab]
   rw[Ie y g zq0 zq0,Jm y g zq0 zq0]
   simp only[Ab,List.length_nil,List.nil_append,List.append_nil,List.length_cons,List.length_append,Nat.zero_add,Nat.reduceAdd,Nat.reduceLeDiff,decide_true,Ar,d2,d4]
   exact tail (y') (Bp s) ([(s.2.2.2.2.2.2.2.2.2.2.2.2.2.2.2.2.2.2.1,s.2.2.2.2.2.2.2.2.2.2.2.2.2.2.2.2.2.2.2.1,g'.1,g'.2.1,g'.2.2.1,g'.2.2.2.1,g'.2.2.2.2.1,g'.2.2.2.2.2.1,g'.2.2.2.2.2.2.1,g'.2.2.2.2.2.2.2.1,g'.2.2.2.2.2.2.2.2.1,g'.2.2.2.2.2.2.2.2.2.1,g'.2.2.2.2.2.2.2.2.2.2.1,())]) ([Hf k s.2.2.1 (Dx 0 f),Gl y' g']) p' b y g zz zq0 zq0 zq0 zq0 zq0 (by simp only[Af,Dv,List.length_nil,List.length_cons];simp only[A5]at*;omega) (by simp only[Af,Db,Hf,Gl,L7,List.length_nil,List.length_cons];omega)
  |false=>
   simp only[Bool.not_false,Ay,Aj,Ab,List.length_nil,List.nil_append,List.length_cons,List.length_append,Nat.zero_add,Nat.reduceAdd,Nat.reduceLeDiff,decide_true,Ar,d2,d5]
   obtain⟨p',b,of1,of2,OF1,OF2,OF3⟩:=L3 (Bp s) n a d zq0
   obtain⟨y,g,zz,g1,g2,e',GS1,GS2,GS3,_⟩:=Gf (X) 5 d.1 zq0
   have hyk:=En y
   rw[show Df _ n a d=some (p',(b,()))from of1,show E8 _ n a d=some (p',(b,()))from of2,show Cj _ (5,()) d=some (y,g,(zz,()))from g1,show Di _ (5,()) d=some (y,g,(zz,()))from g2]
   simp only[Ab]
   rw[Ie y g zq0 zq0,Jm y g zq0 zq0]
   simp only[Ab,List.length_nil,List.nil_append,List.append_nil,List.length_cons,List.length_append,Nat.zero_add,Nat.reduceAdd,Nat.reduceLeDiff,decide_true,Ar,d2,d4]
   exact tail (X) (Bp s) ([]) ([Hf k s.2.2.1 (Dx 0 f)]) p' b y g zz zq0 zq0 zq0 zq0 zq0 (by simp only[Af,Dv,List.length_nil,List.length_cons];simp only[A5]at*;omega) (by simp only[Af,Db,Hf,Gl,L7,List.length_nil,List.length_cons];omega)
end
end Go.Proofs.YthccfdmiejmbaaaGreat
