/-
  That the program and the reference answer alike, in plain terms, and that the laws answer true.
-/
import Derived.Test.YtjlblagmjlmglaaGreatL21
namespace Go.Proofs.YtjlblagmjlmglaaGreat
open Go.RowKit
set_option linter.unusedVariables false
set_option linter.unusedSimpArgs false
set_option maxRecDepth 100000
set_option maxHeartbeats 4000000
noncomputable section
def A5a (b:Int):Int:=IntKind.i64.wrap ((1:Int)*2^(min b.toNat IntKind.i64.bits))
def Aub (w b:Int):Int:=IntKind.i64.wrap ((BitVec.ofInt IntKind.i64.bits w &&& ~~~ BitVec.ofInt IntKind.i64.bits (A5a b)).toNat:Nat)
def Aaa (w b:Int):Int:=IntKind.i64.wrap ((BitVec.ofInt IntKind.i64.bits w ||| BitVec.ofInt IntKind.i64.bits (A5a b)).toNat:Nat)
theorem A3b {b:Nat} (h:b<32):A5a (b:Int)=((2^b:Nat):Int):=by
 unfold A5a
 rw[show min (Int.toNat (b:Int)) IntKind.i64.bits=b by rw[Int.toNat_natCast];show min b 64=b;omega]
 have h1:(2:Nat)^b≤2^31:=Nat.pow_le_pow_right zq4 zq0
 have h2:((1:Int)*2^b)=((2^b:Nat):Int):=by push_cast;omega
 rw[h2]
 generalize (2:Nat)^b=N at h1 ⊢
 exact w64 zq0
theorem Jb (n:Nat):BitVec.ofInt IntKind.i64.bits (n:Int)=BitVec.ofNat 64 n:=by
 show BitVec.ofInt 64 (n:Int)=_
 simp
theorem Bbb {w b:Nat} (hw:w<4294967296) (hb:b<32): ∃r:Nat,Aub (w:Int) (b:Int)=(r:Int)∧r<4294967296∧ ∀j,r.testBit j=(w.testBit j && !decide (j=b)):=by
 unfold Aub
 rw[A3b hb,Jb,Jb]
 refine⟨(BitVec.ofNat 64 w &&& ~~~ BitVec.ofNat 64 (2^b)).toNat,?_,?_,fun j=>?_⟩
 ·have h1:(BitVec.ofNat 64 w &&& ~~~ BitVec.ofNat 64 (2^b)).toNat≤w:=by
   rw[BitVec.toNat_and]
   refine Nat.le_trans Nat.and_le_left ?_
   rw[BitVec.toNat_ofNat];exact Nat.mod_le _ _
  show IntKind.i64.wrap (((BitVec.ofNat 64 w &&& ~~~ BitVec.ofNat 64 (2^b)).toNat:Nat):Int)=_
  exact w64 zq0
 ·have h1:(BitVec.ofNat 64 w &&& ~~~ BitVec.ofNat 64 (2^b)).toNat≤w:=by
   rw[BitVec.toNat_and]
   refine Nat.le_trans Nat.and_le_left ?_
   rw[BitVec.toNat_ofNat];exact Nat.mod_le _ _
  omega
 ·rw[show((BitVec.ofNat 64 w &&& ~~~ BitVec.ofNat 64 (2^b)).toNat).testBit j=(BitVec.ofNat 64 w &&& ~~~ BitVec.ofNat 64 (2^b)).getLsbD j from rfl]
  rw[BitVec.getLsbD_and,BitVec.getLsbD_not,BitVec.getLsbD_ofNat,BitVec.getLsbD_ofNat,Nat.testBit_two_pow]
  by_cases hj:j<64
  ·rw[show decide (j<64)=true from decide_eq_true hj]
   simp only[Bool.true_and]
   congr 2
   simp[eq_comm]
  ·have:w.testBit j=false:=Nat.testBit_lt_two_pow (Nat.lt_of_lt_of_le hw (Nat.le_trans (by decide:4294967296≤2^64) (Nat.pow_le_pow_right zq4 zq0)))
   rw[this];simp
theorem Auc {w b:Nat} (hw:w<4294967296) (hb:b<32): ∃r:Nat,Aaa (w:Int) (b:Int)=(r:Int)∧r<4294967296∧ ∀j,r.testBit j=(w.testBit j || decide (j=b)):=by
 unfold Aaa
 rw[A3b hb,Jb,Jb]
 have hlt:(BitVec.ofNat 64 w ||| BitVec.ofNat 64 (2^b)).toNat<2^32:=by
  rw[BitVec.toNat_or]
  refine Nat.or_lt_two_pow ?_ ?_
  ·rw[BitVec.toNat_ofNat];exact Nat.lt_of_le_of_lt (Nat.mod_le _ _) hw
  ·rw[BitVec.toNat_ofNat];exact Nat.lt_of_le_of_lt (Nat.mod_le _ _) (Nat.pow_lt_pow_right zq4 hb)
 refine⟨(BitVec.ofNat 64 w ||| BitVec.ofNat 64 (2^b)).toNat,?_,hlt,fun j=>?_⟩
 ·show IntKind.i64.wrap (((BitVec.ofNat 64 w ||| BitVec.ofNat 64 (2^b)).toNat:Nat):Int)=_
  exact w64 zq0
 ·rw[show((BitVec.ofNat 64 w ||| BitVec.ofNat 64 (2^b)).toNat).testBit j=(BitVec.ofNat 64 w ||| BitVec.ofNat 64 (2^b)).getLsbD j from rfl]
  rw[BitVec.getLsbD_or,BitVec.getLsbD_ofNat,BitVec.getLsbD_ofNat,Nat.testBit_two_pow]
  by_cases hj:j<64
  ·rw[show decide (j<64)=true from decide_eq_true hj]
   simp only[Bool.true_and]
   congr 1
   simp[eq_comm]
  ·have h1:w.testBit j=false:=Nat.testBit_lt_two_pow (Nat.lt_of_lt_of_le hw (Nat.le_trans (by decide:4294967296≤2^64) (Nat.pow_le_pow_right zq4 zq0)))
   have h2:decide (j=b)=false:=decide_eq_false zq0
   rw[h1,h2];simp[hj]
def Fr (l:List YI):Prop:=l.length=32∧ ∀(q:Nat) (x:YI),l[q]? =some x→0≤x.1∧x.1<4294967296
def Qu (l:List YI) (r:Nat):Bool:=((l[r/32]?.getD (0,())).1.toNat).testBit (r%32)
theorem A7q {l m:List YI} (h:Fr l) (k:Fr m) (hb: ∀r,r<1024→Qu l r=Qu m r):l=m:=by
 apply List.ext_getElem?
 intro q
 by_cases hq:q<32
 ·have hql:q<l.length:=by rw[h.1];exact hq
  have hqm:q<m.length:=by rw[k.1];exact hq
  have hx:=List.getElem?_eq_getElem hql
  have hy:=List.getElem?_eq_getElem hqm
  have h1:=h.2 q _ hx
  have h2:=k.2 q _ hy
  have he:l[q].1.toNat=m[q].1.toNat:=by
   apply Nat.eq_of_testBit_eq
   intro j
   by_cases hj:j<32
   ·have:=hb (32*q+j) zq0
    unfold Qu at this
    rw[show(32*q+j)/32=q by omega,show(32*q+j)%32=j by omega,hx,hy]at this
    exact this
   ·have e: ∀n:Nat,n<4294967296→n.testBit j=false:=fun n hn=>Nat.testBit_lt_two_pow (Nat.lt_of_lt_of_le hn (Nat.le_trans (by decide:4294967296≤2^32) (Nat.pow_le_pow_right zq4 zq0)))
    rw[e _ zq0,e _ zq0]
  rw[hx,hy]
  have he2:l[q].1=m[q].1:=by omega
  have:l[q]=m[q]:=Prod.ext he2 rfl
  rw[this]
 ·rw[List.getElem?_eq_none (by rw[h.1];omega),List.getElem?_eq_none (by rw[k.1];omega)]
def Jp (f:Int→Int→Int) (l:List YI) (n:Int):List YI:=l.set ((n%1024)/32).toNat (f (l[((n%1024)/32).toNat]?.getD (0,())).1 (n%32),())
theorem Amw {f:Int→Int→Int} {g:Bool→Bool→Bool} (hf: ∀ {w b:Nat},w<4294967296→b<32→ ∃r:Nat,f (w:Int) (b:Int)=(r:Int)∧r<4294967296∧ ∀j,r.testBit j=g (w.testBit j) (decide (j=b))) (hg: ∀x,g x false=x)
  {l:List YI} (h:Fr l) {n:Int} (h0:0≤n):Fr (Jp f l n)∧ ∀r,r<1024→Qu (Jp f l n) r=g (Qu l r) (decide ((r:Int)=n%1024)):=by
 obtain⟨m,rfl⟩:=Int.eq_ofNat_of_zero_le h0
 have hq:((m:Int)%1024/32).toNat=m%1024/32:=by omega
 have hlt:m%1024/32<l.length:=by rw[h.1];omega
 have hx:=List.getElem?_eq_getElem hlt
 have hw:=h.2 _ _ hx
 obtain⟨r,r1,r2,r3⟩:=hf (w:=l[m%1024/32].1.toNat) (b:=m%32) zq0 zq0
 have hval:f (l[m%1024/32]?.getD (0,())).1 ((m:Int)%32)=(r:Int):=by
  rw[hx]
  show f l[m%1024/32].1 ((m:Int)%32)=_
  rw[←r1]
  congr 1<;>omega
 have ht:Jp f l (m:Int)=l.set (m%1024/32) ((r:Int),()):=by
  unfold Jp
  rw[hq,hval]
 rw[ht]
 refine⟨⟨by rw[List.length_set];exact h.1,fun q x hx'=>?_⟩,fun k hk=>?_⟩
 ·rw[List.getElem?_set]at hx'
  split at hx'
  ·simp only[Option.some.injEq]at hx'
   subst hx'
   exact⟨by simp,by simp;omega⟩
  ·exact h.2 q x hx'
 ·unfold Qu
  rw[List.getElem?_set]
  by_cases hk2:m%1024/32=k/32
  ·rw[if_pos hk2,if_pos hlt]
   show r.testBit (k%32)=_
   rw[r3,hk2.symm,hx]
   show g _ _=g _ _
   congr 1
   apply decide_eq_decide.2
   omega
  ·rw[if_neg hk2]
   rw[show decide ((k:Int)=(m:Int)%1024)=false from decide_eq_false zq0,hg]
def Ig (l:List YI) (s:Int):Nat→List YI
 |0=>l
 |m+1=>Jp Aub (Ig l s m) (s+m)
theorem Nv {l:List YI} (h:Fr l) {s:Int} (h0:0≤s): ∀m:Nat,Fr (Ig l s m)∧ ∀r,r<1024→Qu (Ig l s m) r=(Qu l r && decide (∀k:Nat,k<m→(r:Int)≠(s+k)%1024))
 |0=>⟨h,fun r _=>by simp[Ig]⟩
 |m+1=>by
  obtain⟨h1,h2⟩:=Nv h h0 m
  obtain⟨h3,h4⟩:=Amw (f:=Aub) (g:=fun x y=>x && !y) (fun hw hb=>Bbb hw hb) (fun x=>by simp) h1 (n:=s+m) zq0
  refine⟨h3,fun r hr=>?_⟩
  show Qu (Jp Aub (Ig l s m) (s+m)) r=_
  rw[h4 r hr,h2 r hr,Bool.and_assoc]
  congr 1
  rw[←decide_not,←Bool.decide_and]
  apply decide_eq_decide.2
  constructor
  ·rintro⟨a,b⟩ k hk
   rcases Nat.lt_or_ge k m with h|h
   ·exact a k h
   ·rw[show k=m by omega];exact b
  ·intro a
   exact⟨fun k hk=>a k zq0,a m zq0⟩
theorem Bcg {l:List YI} (h:Fr l) {s1 s2 n:Int} {m1 m2:Nat} (h1:0≤s1) (h2:0≤s2) (hn:0≤n)
  (he: ∀r:Nat,r<1024→(r:Int)≠n%1024→((∀k:Nat,k<m1→(r:Int)≠(s1+k)%1024)↔ ∀k:Nat,k<m2→(r:Int)≠(s2+k)%1024)):
  Jp Aaa (Ig l s1 m1) n=Jp Aaa (Ig l s2 m2) n:=by
 obtain⟨a1,a2⟩:=Nv h h1 m1
 obtain⟨b1,b2⟩:=Nv h h2 m2
 obtain⟨a3,a4⟩:=Amw (f:=Aaa) (g:=fun x y=>x || y) (fun hw hb=>Auc hw hb) (fun x=>by simp) a1 hn
 obtain⟨b3,b4⟩:=Amw (f:=Aaa) (g:=fun x y=>x || y) (fun hw hb=>Auc hw hb) (fun x=>by simp) b1 hn
 refine A7q a3 b3 fun r hr=>?_
 rw[a4 r hr,b4 r hr,a2 r hr,b2 r hr]
 by_cases hrn:(r:Int)=n%1024
 ·rw[show decide ((r:Int)=n%1024)=true from decide_eq_true hrn];simp
 ·rw[show decide ((r:Int)=n%1024)=false from decide_eq_false hrn]
  simp only[Bool.or_false]
  congr 1
  exact decide_eq_decide.2 (he r hr hrn)
theorem Ah3 {l:List YI} (h:Fr l) {n:Int} (h0:0≤n):idx l (n%1024/32)=some (l[((n%1024)/32).toNat]?.getD (0,())):=by
 have hlt:((n%1024)/32).toNat<l.length:=by rw[h.1];omega
 unfold idx
 rw[if_pos zq0,List.getElem?_eq_getElem hlt];rfl
end
end Go.Proofs.YtjlblagmjlmglaaGreat
