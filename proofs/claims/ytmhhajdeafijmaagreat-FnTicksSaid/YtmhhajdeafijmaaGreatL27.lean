/-
  That the program and the reference answer alike, in plain terms, and that the laws answer true.
-/
import Derived.Test.YtmhhajdeafijmaaGreatL26
namespace Go.Proofs.YtmhhajdeafijmaaGreat
open Go.RowKit
set_option linter.unusedVariables false
set_option linter.unusedSimpArgs false
set_option maxRecDepth 100000
set_option maxHeartbeats 4000000
noncomputable section
theorem Te {w:Bn} (h:Fq w=true):F2 w.2.1∧ -1≤w.1∧w.1≤281474976710655:=by
 unfold Fq at h
 simp only[Bool.and_eq_true]at h
 have h1:=A6.1 h.1
 refine⟨⟨by have:=h.2.1.2;simp at this;omega,fun q x hx=>?_⟩,h1.1,h1.2⟩
 have:=Xh.1 h.2.1.1 q x hx
 omega
def Fu (w:Bn) (n:Int):Bool:=Fq w && (inR n 0 281474976710655 && (decide (n>w.1) || (decide (n≥w.1-1023) && !T8 w n)))
theorem A8t (w:Bn) (n:YI) (hl:w.2.1.length≤4294967296):Ah2 w n=some (Fu w n.1,()):=by
 unfold Ah2 Asi Fu
 simp only[Ag,Ai,Ad]
 rw[A2v w hl,Br]
 simp only[Aj]
 cases ho:Fq w with
 |false=>rfl
 |true=>
  obtain⟨h1,h2,h3⟩:=Te ho
  cases hn:inR n.1 0 281474976710655 with
  |false=>rfl
  |true=>
   have hn':=A6.1 hn
   simp only[Bool.not_true,An]
   rw[w64 (n:=w.1-1024) zq0,w64 zq0,Aqb w n h1.1 hn'.1,show w.1-1024+1=w.1-1023 by omega]
   cases decide (n.1>w.1)<;>cases decide (n.1≥w.1-1023)<;>rfl
theorem Azh (w:Bn) (n:YI) (hl:w.2.1.length≤4294967296):W9 w n=some (Fu w n.1,()):=by
 unfold W9 Agh Fu Aon Acy
 simp only[Ag,Ai,Ad]
 rw[A2w w,Cb]
 simp only[Aj]
 cases ho:Fq w with
 |false=>rfl
 |true=>
  obtain⟨h1,h2,h3⟩:=Te ho
  cases hn:inR n.1 0 281474976710655 with
  |false=>rfl
  |true=>
   have hn':=A6.1 hn
   simp only[Bool.not_true,An]
   rw[w64 (n:=w.1-1024) zq0,w64 zq0,At9 w n h1.1 hn'.1,show w.1-1024+1=w.1-1023 by omega]
   simp only[Aj]
   by_cases hg:n.1>w.1
   ·rw[Am hg];rfl
   ·rw[A8 hg]
    by_cases ht:w.1<1024
    ·rw[Am ht,Aw,Aj]
     simp only
     rw[Am (p:=n.1≥0) zq0,Am (p:=n.1≥w.1-1023) zq0];rfl
    ·rw[A8 ht]
     simp only[An,Aj]
     cases decide (n.1≥w.1-1023)<;>rfl
theorem A65 {l:List YI} (h:F2 l) (n s t:Int) (l0:List YI) (t':Int) (m:Nat) (h0:0≤s) (hm:s+m=n∨(m=0∧n≤s)) (hn:n≤281474976710656) (hs:s≤281474976710656):
  Ay Ll (n,s,t,l0,(0:Int),([]:List YI),t',l,())=some (n,t,l0,(0:Int),([]:List YI),t',It l s m,()):=by
 have hl:=Cq (B:=Ll) m (fun i=>(n,s+(i:Int),t,l0,(0:Int),([]:List YI),t',It l s i,())) (n,t,l0,(0:Int),([]:List YI),t',It l s m,())
  (fun i hi=>by
   have hw:=(Of h h0 i).1
   have hx:=Ail hw (n:=s+(i:Int)) zq0
   unfold Ll
   simp only[Ag,Ai,Ad,Ao]
   rw[Am (p:=s+(i:Int)<n) zq0,Aw,Am (p:=(0:Int)≤s+(i:Int)) zq0,Am (p:=(0:Int)≤(s+(i:Int))%1024) zq0,Am (p:=(0:Int)≤(s+(i:Int))%32) zq0,hx,w64 (n:=s+(i:Int)+1) zq0]
   simp only[Aj,A5]
   rw[show s+((i+1:Nat):Int)=s+(i:Int)+1 by push_cast;omega]
   rfl)
  (by
   unfold Ll
   simp only[Ag,Ai,Ad,Ao]
   rw[A8 zq0,An])
 rw[show s=s+((0:Nat):Int) by simp]at hl
 simpa [It] using hl
theorem A66 {l:List YI} (h:F2 l) (n s t:Int) (l0:List YI) (t':Int) (m:Nat) (h0:0≤s) (hm:(s+m=n+1∧m≤1024)∨(m=1024∧s+1024≤n+1)∨(m=0∧n<s)) (hn:n≤281474976710656) (hs:s≤281474976710656):
  Ay I1 (n,(0:Int),s,t,l0,(0:Int),([]:List YI),t',l,())=some (n,t,l0,(0:Int),([]:List YI),t',It l s m,()):=by
 have hl:=Cq (B:=I1) m (fun i=>(n,(i:Int),s+(i:Int),t,l0,(0:Int),([]:List YI),t',It l s i,())) (n,t,l0,(0:Int),([]:List YI),t',It l s m,())
  (fun i hi=>by
   have hw:=(Of h h0 i).1
   have hx:=Ail hw (n:=s+(i:Int)) zq0
   unfold I1
   simp only[Ag,Ai,Ad,Ao]
   rw[Am (p:=s+(i:Int)≤n) zq0,Aw,Am (p:=(i:Int)<1024) zq0,Aw,Am (p:=(0:Int)≤s+(i:Int)) zq0,Am (p:=(0:Int)≤(s+(i:Int))%1024) zq0,show(s+(i:Int))%1024%32=(s+(i:Int))%32 by omega,Am (p:=(0:Int)≤(s+(i:Int))%32) zq0,hx,w64 (n:=s+(i:Int)+1) zq0,w64 (n:=(i:Int)+1) zq0]
   simp only[Aj,A5]
   rw[show s+((i+1:Nat):Int)=s+(i:Int)+1 by push_cast;omega]
   rfl)
  (by
   unfold I1
   simp only[Ag,Ai,Ad,Ao]
   by_cases hle:s+(m:Int)≤n
   ·rw[Am hle,Aw,A8 (p:=(m:Int)<1024) zq0,An]
   ·rw[A8 hle,An])
 rw[show s=s+((0:Nat):Int) by simp]at hl
 simpa [It] using hl
def Azi (t n:Int):Nat:=if n≤t then 0 else if n≤t+1024 then(n-t-1).toNat else 1023
def Ad1 (t n:Int):Int:=if t+1<n-1023 then n-1023 else t+1
def Ad2 (t n:Int):Nat:=if n≤t then 0 else if n≤t+1024 then(n-t).toNat else 1024
def Gt (w:Bn) (n:Int):Bn:=(if w.1<n then n else w.1,Jz Aaz (It w.2.1 (w.1+1) (Ad2 w.1 n)) n,())
theorem A8u {l:List YI} (h:F2 l) {t n:Int} (ht: -1≤t) (hn:0≤n):Jz Aaz (It l (Ad1 t n) (Azi t n)) n=Jz Aaz (It l (t+1) (Ad2 t n)) n:=by
 refine Bbz h (by unfold Ad1;split<;>omega) zq0 hn fun r hr hne=>?_
 unfold Azi Ad2 Ad1
 by_cases h1:n≤t
 ·rw[if_pos h1,if_pos h1]
  exact⟨fun _ k hk=>by omega,fun _ k hk=>by omega⟩
 ·rw[if_neg h1,if_neg h1]
  by_cases h2:n≤t+1024
  ·rw[if_pos h2,if_pos h2,if_neg zq0]
   constructor
   ·intro hk k hk2
    rcases Nat.lt_or_ge k (n-t-1).toNat with hh|hh
    ·exact hk k hh
    ·have:t+1+(k:Int)=n:=by omega
     rw[this];exact hne
   ·intro hk k hk2
    exact hk k zq0
  ·rw[if_neg h2,if_neg h2,if_pos zq0]
   constructor
   ·intro hk
    exact(hk (((r:Int)-(n-1023))%1024).toNat zq0 zq0).elim
   ·intro hk
    exact(hk (((r:Int)-(t+1))%1024).toNat zq0 zq0).elim
theorem Azj {f:Int→Int→Int} {l:List YI} {n:Int}:(Jz f l n).length=l.length:=by unfold Jz;simp
theorem Azk {l:List YI} {s:Int}: ∀m,(It l s m).length=l.length
 |0=>rfl
 |m+1=>by show(Jz Auc (It l s m) (s+m)).length=_;rw[Azj,Azk m]
theorem Ad3 (w:Bn) (n:Int):Dx (Gt w n)=Dx w:=by
 simp only[Dx,Gt,Azj,Azk]
theorem Azl (w:Bn) (n:YI) (hl:w.2.1.length≤4294967296):Ah3 w n=some (bif Fu w n.1 then(Gt w n.1,(true,()))else(w,(false,()))):=by
 unfold Ah3 Asj
 simp only[Ag,Ai,Ad,Ao]
 rw[Al2 w (by simp only[Dx];omega),A8t w n hl]
 simp only[Aj]
 cases hm:Fu w n.1 with
 |false=>rfl
 |true=>
  have hm':=hm
  unfold Fu at hm'
  simp only[Bool.and_eq_true]at hm'
  obtain⟨h1,h2,h3⟩:=Te hm'.1
  have hn:=A6.1 hm'.2.1
  simp only[Bool.not_true,An,cond_true]
  rw[w64 (n:=w.1+1) zq0,w64 (n:=n.1-1024) zq0,w64 (n:=n.1-1024+1) zq0,show n.1-1024+1=n.1-1023 by omega]
  rw[show(if w.1+1<n.1-1023 then n.1-1023 else w.1+1)=Ad1 w.1 n.1 from rfl]
  rw[A65 h1 n.1 (Ad1 w.1 n.1) w.1 w.2.1 w.1 (Azi w.1 n.1) (by unfold Ad1;split<;>omega) (by unfold Ad1 Azi;split<;>(try split)<;>(try split)<;>omega) zq0 (by unfold Ad1;split<;>omega)]
  have hw:=(Of h1 (s:=Ad1 w.1 n.1) (by unfold Ad1;split<;>omega) (Azi w.1 n.1)).1
  simp only[Aj]
  rw[Am (p:=(0:Int)≤n.1) zq0,Am (p:=(0:Int)≤n.1%1024) zq0,Am (p:=(0:Int)≤n.1%32) zq0,Ail hw hn.1]
  simp only[Aj,A5]
  unfold Gt
  rw[←A8u h1 h2 hn.1]
  rfl
theorem Aqi (w:Bn) (n:YI) (hl:w.2.1.length≤4294967296):Pk w n=some (bif Fu w n.1 then(Gt w n.1,(true,()))else(w,(false,()))):=by
 unfold Pk Agl
 simp only[Ag,Ai,Ad,Ao]
 rw[Ay9 w (by simp only[Dx];omega),Azh w n hl]
 simp only[Aj]
 cases hm:Fu w n.1 with
 |false=>rfl
 |true=>
  have hm':=hm
  unfold Fu at hm'
  simp only[Bool.and_eq_true]at hm'
  obtain⟨h1,h2,h3⟩:=Te hm'.1
  have hn:=A6.1 hm'.2.1
  simp only[Bool.not_true,An,cond_true]
  rw[w64 (n:=w.1+1) zq0]
  rw[A66 h1 n.1 (w.1+1) w.1 w.2.1 w.1 (Ad2 w.1 n.1) zq0 (by unfold Ad2;split<;>(try split)<;>omega) zq0 zq0]
  have hw:=(Of h1 (s:=w.1+1) zq0 (Ad2 w.1 n.1)).1
  simp only[Aj]
  rw[Am (p:=(0:Int)≤n.1) zq0,Am (p:=(0:Int)≤n.1%1024) zq0,show n.1%1024%32=n.1%32 by omega,Am (p:=(0:Int)≤n.1%32) zq0,Ail hw hn.1]
  simp only[Aj,A5]
  unfold Gt
  by_cases hg:n.1>w.1
  ·rw[Am hg,Aw,if_pos hg];rfl
  ·rw[A8 hg,An,if_neg hg];rfl
end
end Go.Proofs.YtmhhajdeafijmaaGreat
