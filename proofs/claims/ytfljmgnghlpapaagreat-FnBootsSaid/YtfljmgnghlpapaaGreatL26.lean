/-
  That the program and the reference answer alike, in plain terms, and that the laws answer true.
-/
import Derived.Test.YtfljmgnghlpapaaGreatL24
namespace Go.Proofs.YtfljmgnghlpapaaGreat
open Go.RowKit
set_option linter.unusedVariables false
set_option linter.unusedSimpArgs false
set_option maxRecDepth 100000
set_option maxHeartbeats 4000000
noncomputable section
def A8o (b:Int):Int:=IntKind.i64.wrap ((1:Int)*2^(min b.toNat IntKind.i64.bits))
def Awb (w b:Int):Int:=IntKind.i64.wrap ((BitVec.ofInt IntKind.i64.bits w &&& ~~~ BitVec.ofInt IntKind.i64.bits (A8o b)).toNat:Nat)
def Bh2 (w b:Int):Int:=IntKind.i64.wrap ((BitVec.ofInt IntKind.i64.bits w ||| BitVec.ofInt IntKind.i64.bits (A8o b)).toNat:Nat)
theorem Bfj {b:Nat} (h:b<32):A8o (b:Int)=((2^b:Nat):Int):=by
 unfold A8o
 rw[show min (Int.toNat (b:Int)) IntKind.i64.bits=b by rw[Int.toNat_natCast];show min b 64=b;omega]
 have h1:(2:Nat)^b≤2^31:=Nat.pow_le_pow_right zq4 zq0
 have h2:((1:Int)*2^b)=((2^b:Nat):Int):=by push_cast;omega
 rw[h2]
 generalize (2:Nat)^b=N at h1 ⊢
 exact w64 zq0
theorem Aao (n:Nat):BitVec.ofInt IntKind.i64.bits (n:Int)=BitVec.ofNat 64 n:=by
 show BitVec.ofInt 64 (n:Int)=_
 simp
theorem Bfk {w b:Nat} (hw:w<4294967296) (hb:b<32): ∃r:Nat,Awb (w:Int) (b:Int)=(r:Int)∧r<4294967296∧ ∀j,r.testBit j=(w.testBit j && !decide (j=b)):=by
 unfold Awb
 rw[Bfj hb,Aao,Aao]
 refine⟨(BitVec.ofNat 64 w &&& ~~~ BitVec.ofNat 64 (2^b)).toNat,?_,?_,fun j=>?_⟩
 ·have h1:(BitVec.ofNat 64 w &&& ~~~ BitVec.ofNat 64 (2^b)).toNat≤w:=by
   rw[BitVec.toNat_and]
   refine Nat.le_trans Nat.and_le_left ?_
   rw[BitVec.toNat_ofNat];exact Nat.mod_le _ _
  show IntKind.i64.wrap (((BitVec.ofNat 64 w &&& ~~~ BitVec.ofNat 64 (2^b)).toNat:Nat):Int)=_
  exact w64 zq0
 ·have h1:(BitVec.ofNat 64 w &&& ~~~ BitVec.ofNat 64 (2^b)).toNat≤w:=by
   rw[BitVec.toNat_and]
   refine Nat.le_trans Nat.and_le_left ?_
   rw[BitVec.toNat_ofNat];exact Nat.mod_le _ _
  omega
 ·rw[show((BitVec.ofNat 64 w &&& ~~~ BitVec.ofNat 64 (2^b)).toNat).testBit j=(BitVec.ofNat 64 w &&& ~~~ BitVec.ofNat 64 (2^b)).getLsbD j from rfl]
  rw[BitVec.getLsbD_and,BitVec.getLsbD_not,BitVec.getLsbD_ofNat,BitVec.getLsbD_ofNat,Nat.testBit_two_pow]
  by_cases hj:j<64
  ·rw[show decide (j<64)=true from decide_eq_true hj]
   simp only[Bool.true_and]
   congr 2
   simp[eq_comm]
  ·have:w.testBit j=false:=Nat.testBit_lt_two_pow (Nat.lt_of_lt_of_le hw (Nat.le_trans (by decide:4294967296≤2^64) (Nat.pow_le_pow_right zq4 zq0)))
   rw[this];simp
def R0 (l:List YI):Prop:=l.length=32∧ ∀(q:Nat) (x:YI),l[q]? =some x→0≤x.1∧x.1<4294967296
def Awc (l:List YI) (r:Nat):Bool:=((l[r/32]?.getD (0,())).1.toNat).testBit (r%32)
def Ta (f:Int→Int→Int) (l:List YI) (n:Int):List YI:=l.set ((n%1024)/32).toNat (f (l[((n%1024)/32).toNat]?.getD (0,())).1 (n%32),())
theorem Bfl {f:Int→Int→Int} {g:Bool→Bool→Bool} (hf: ∀ {w b:Nat},w<4294967296→b<32→ ∃r:Nat,f (w:Int) (b:Int)=(r:Int)∧r<4294967296∧ ∀j,r.testBit j=g (w.testBit j) (decide (j=b))) (hg: ∀x,g x false=x)
  {l:List YI} (h:R0 l) {n:Int} (h0:0≤n):R0 (Ta f l n)∧ ∀r,r<1024→Awc (Ta f l n) r=g (Awc l r) (decide ((r:Int)=n%1024)):=by
 obtain⟨m,rfl⟩:=Int.eq_ofNat_of_zero_le h0
 have hq:((m:Int)%1024/32).toNat=m%1024/32:=by omega
 have hlt:m%1024/32<l.length:=by rw[h.1];omega
 have hx:=List.getElem?_eq_getElem hlt
 have hw:=h.2 _ _ hx
 obtain⟨r,r1,r2,r3⟩:=hf (w:=l[m%1024/32].1.toNat) (b:=m%32) zq0 zq0
 have hval:f (l[m%1024/32]?.getD (0,())).1 ((m:Int)%32)=(r:Int):=by
  rw[hx]
  show f l[m%1024/32].1 ((m:Int)%32)=_
  rw[←r1]
  congr 1<;>omega
 have ht:Ta f l (m:Int)=l.set (m%1024/32) ((r:Int),()):=by
  unfold Ta
  rw[hq,hval]
 rw[ht]
 refine⟨⟨by rw[List.length_set];exact h.1,fun q x hx'=>?_⟩,fun k hk=>?_⟩
 ·rw[List.getElem?_set]at hx'
  split at hx'
  ·simp only[Option.some.injEq]at hx'
   subst hx'
   exact⟨by simp,by simp;omega⟩
  ·exact h.2 q x hx'
 ·unfold Awc
  rw[List.getElem?_set]
  by_cases hk2:m%1024/32=k/32
  ·rw[if_pos hk2,if_pos hlt]
   show r.testBit (k%32)=_
   rw[r3,hk2.symm,hx]
   show g _ _=g _ _
   congr 1
   apply decide_eq_decide.2
   omega
  ·rw[if_neg hk2]
   rw[show decide ((k:Int)=(m:Int)%1024)=false from decide_eq_false zq0,hg]
def Uz (l:List YI) (s:Int):Nat→List YI
 |0=>l
 |m+1=>Ta Awb (Uz l s m) (s+m)
theorem Awd {l:List YI} (h:R0 l) {s:Int} (h0:0≤s): ∀m:Nat,R0 (Uz l s m)∧ ∀r,r<1024→Awc (Uz l s m) r=(Awc l r && decide (∀k:Nat,k<m→(r:Int)≠(s+k)%1024))
 |0=>⟨h,fun r _=>by simp[Uz]⟩
 |m+1=>by
  obtain⟨h1,h2⟩:=Awd h h0 m
  obtain⟨h3,h4⟩:=Bfl (f:=Awb) (g:=fun x y=>x && !y) (fun hw hb=>Bfk hw hb) (fun x=>by simp) h1 (n:=s+m) zq0
  refine⟨h3,fun r hr=>?_⟩
  show Awc (Ta Awb (Uz l s m) (s+m)) r=_
  rw[h4 r hr,h2 r hr,Bool.and_assoc]
  congr 1
  rw[←decide_not,←Bool.decide_and]
  apply decide_eq_decide.2
  constructor
  ·rintro⟨a,b⟩ k hk
   rcases Nat.lt_or_ge k m with h|h
   ·exact a k h
   ·rw[show k=m by omega];exact b
  ·intro a
   exact⟨fun k hk=>a k zq0,a m zq0⟩
theorem A2u {l:List YI} (h:R0 l) {n:Int} (h0:0≤n):idx l (n%1024/32)=some (l[((n%1024)/32).toNat]?.getD (0,())):=by
 have hlt:((n%1024)/32).toNat<l.length:=by rw[h.1];omega
 unfold idx
 rw[if_pos zq0,List.getElem?_eq_getElem hlt];rfl
end
end Go.Proofs.YtfljmgnghlpapaaGreat
