/-
  That the program and the reference answer alike, in plain terms, and that the laws answer true.
-/
import Derived.Test.YtmhhajdeafijmaaGreatL26
namespace Go.Proofs.YtmhhajdeafijmaaGreat
open Go.RowKit
set_option linter.unusedVariables false
set_option linter.unusedSimpArgs false
set_option maxRecDepth 100000
set_option maxHeartbeats 4000000
noncomputable section
theorem Te {w:Bv} (h:I2 w=true):Fw w.2.1∧ -1≤w.1∧w.1≤281474976710655:=by
 unfold I2 at h
 simp only[Bool.and_eq_true]at h
 have h1:=C6.1 h.1
 refine⟨⟨by have:=h.2.1.2;simp at this;omega,fun q x hx=>?_⟩,h1.1,h1.2⟩
 have:=U3.1 h.2.1.1 q x hx
 omega
def Gt (w:Bv) (n:Int):Bool:=I2 w && (inR n 0 281474976710655 && (decide (n>w.1) || (decide (n≥w.1-1023) && !Ud w n)))
theorem A7d (w:Bv) (n:YI) (hl:w.2.1.length≤4294967296):Aee w n=some (Gt w n.1,()):=by
 unfold Aee Aed Gt
 simp only[Af,Ah,Ac]
 rw[A08 w hl,C9]
 simp only[Ai]
 cases ho:I2 w with
 |false=>rfl
 |true=>
  obtain⟨h1,h2,h3⟩:=Te ho
  cases hn:inR n.1 0 281474976710655 with
  |false=>rfl
  |true=>
   have hn':=C6.1 hn
   simp only[Bool.not_true,Ap]
   rw[w64 (n:=w.1-1024) zq0,w64 zq0,Any w n h1.1 hn'.1,show w.1-1024+1=w.1-1023 by omega]
   cases decide (n.1>w.1)<;>cases decide (n.1≥w.1-1023)<;>rfl
theorem Axp (w:Bv) (n:YI) (hl:w.2.1.length≤4294967296):Uk w n=some (Gt w n.1,()):=by
 unfold Uk Adb Gt Alm Zw
 simp only[Af,Ah,Ac]
 rw[A09 w,C4]
 simp only[Ai]
 cases ho:I2 w with
 |false=>rfl
 |true=>
  obtain⟨h1,h2,h3⟩:=Te ho
  cases hn:inR n.1 0 281474976710655 with
  |false=>rfl
  |true=>
   have hn':=C6.1 hn
   simp only[Bool.not_true,Ap]
   rw[w64 (n:=w.1-1024) zq0,w64 zq0,Asj w n h1.1 hn'.1,show w.1-1024+1=w.1-1023 by omega]
   simp only[Ai]
   by_cases hg:n.1>w.1
   ·rw[Al hg];rfl
   ·rw[Bi hg]
    by_cases ht:w.1<1024
    ·rw[Al ht,Az,Ai]
     simp only
     rw[Al (p:=n.1≥0) zq0,Al (p:=n.1≥w.1-1023) zq0];rfl
    ·rw[Bi ht]
     simp only[Ap,Ai]
     cases decide (n.1≥w.1-1023)<;>rfl
theorem A5f {l:List YI} (h:Fw l) (n s t:Int) (l0:List YI) (t':Int) (m:Nat) (h0:0≤s) (hm:s+m=n∨(m=0∧n≤s)) (hn:n≤281474976710656) (hs:s≤281474976710656):
  Ay Ja (n,s,t,l0,(0:Int),([]:List YI),t',l,())=some (n,t,l0,(0:Int),([]:List YI),t',Iz l s m,()):=by
 have hl:=Cj (B:=Ja) m (fun i=>(n,s+(i:Int),t,l0,(0:Int),([]:List YI),t',Iz l s i,())) (n,t,l0,(0:Int),([]:List YI),t',Iz l s m,())
  (fun i hi=>by
   have hw:=(Ow h h0 i).1
   have hx:=Af2 hw (n:=s+(i:Int)) zq0
   unfold Ja
   simp only[Af,Ah,Ac,An]
   rw[Al (p:=s+(i:Int)<n) zq0,Az,Al (p:=(0:Int)≤s+(i:Int)) zq0,Al (p:=(0:Int)≤(s+(i:Int))%1024) zq0,Al (p:=(0:Int)≤(s+(i:Int))%32) zq0,hx,w64 (n:=s+(i:Int)+1) zq0]
   simp only[Ai,A5]
   rw[show s+((i+1:Nat):Int)=s+(i:Int)+1 by push_cast;omega]
   rfl)
  (by
   unfold Ja
   simp only[Af,Ah,Ac,An]
   rw[Bi zq0,Ap])
 rw[show s=s+((0:Nat):Int) by simp]at hl
 simpa [Iz] using hl
theorem A5g {l:List YI} (h:Fw l) (n s t:Int) (l0:List YI) (t':Int) (m:Nat) (h0:0≤s) (hm:(s+m=n+1∧m≤1024)∨(m=1024∧s+1024≤n+1)∨(m=0∧n<s)) (hn:n≤281474976710656) (hs:s≤281474976710656):
  Ay I5 (n,(0:Int),s,t,l0,(0:Int),([]:List YI),t',l,())=some (n,t,l0,(0:Int),([]:List YI),t',Iz l s m,()):=by
 have hl:=Cj (B:=I5) m (fun i=>(n,(i:Int),s+(i:Int),t,l0,(0:Int),([]:List YI),t',Iz l s i,())) (n,t,l0,(0:Int),([]:List YI),t',Iz l s m,())
  (fun i hi=>by
   have hw:=(Ow h h0 i).1
   have hx:=Af2 hw (n:=s+(i:Int)) zq0
   unfold I5
   simp only[Af,Ah,Ac,An]
   rw[Al (p:=s+(i:Int)≤n) zq0,Az,Al (p:=(i:Int)<1024) zq0,Az,Al (p:=(0:Int)≤s+(i:Int)) zq0,Al (p:=(0:Int)≤(s+(i:Int))%1024) zq0,show(s+(i:Int))%1024%32=(s+(i:Int))%32 by omega,Al (p:=(0:Int)≤(s+(i:Int))%32) zq0,hx,w64 (n:=s+(i:Int)+1) zq0,w64 (n:=(i:Int)+1) zq0]
   simp only[Ai,A5]
   rw[show s+((i+1:Nat):Int)=s+(i:Int)+1 by push_cast;omega]
   rfl)
  (by
   unfold I5
   simp only[Af,Ah,Ac,An]
   by_cases hle:s+(m:Int)≤n
   ·rw[Al hle,Az,Bi (p:=(m:Int)<1024) zq0,Ap]
   ·rw[Bi hle,Ap])
 rw[show s=s+((0:Nat):Int) by simp]at hl
 simpa [Iz] using hl
def Axq (t n:Int):Nat:=if n≤t then 0 else if n≤t+1024 then(n-t-1).toNat else 1023
def Abb (t n:Int):Int:=if t+1<n-1023 then n-1023 else t+1
def Abc (t n:Int):Nat:=if n≤t then 0 else if n≤t+1024 then(n-t).toNat else 1024
def Hr (w:Bv) (n:Int):Bv:=(if w.1<n then n else w.1,J5 W7 (Iz w.2.1 (w.1+1) (Abc w.1 n)) n,())
theorem A7e {l:List YI} (h:Fw l) {t n:Int} (ht: -1≤t) (hn:0≤n):J5 W7 (Iz l (Abb t n) (Axq t n)) n=J5 W7 (Iz l (t+1) (Abc t n)) n:=by
 refine A97 h (by unfold Abb;split<;>omega) zq0 hn fun r hr hne=>?_
 unfold Axq Abc Abb
 by_cases h1:n≤t
 ·rw[if_pos h1,if_pos h1]
  exact⟨fun _ k hk=>by omega,fun _ k hk=>by omega⟩
 ·rw[if_neg h1,if_neg h1]
  by_cases h2:n≤t+1024
  ·rw[if_pos h2,if_pos h2,if_neg zq0]
   constructor
   ·intro hk k hk2
    rcases Nat.lt_or_ge k (n-t-1).toNat with hh|hh
    ·exact hk k hh
    ·have:t+1+(k:Int)=n:=by omega
     rw[this];exact hne
   ·intro hk k hk2
    exact hk k zq0
  ·rw[if_neg h2,if_neg h2,if_pos zq0]
   constructor
   ·intro hk
    exact(hk (((r:Int)-(n-1023))%1024).toNat zq0 zq0).elim
   ·intro hk
    exact(hk (((r:Int)-(t+1))%1024).toNat zq0 zq0).elim
theorem Axr {f:Int→Int→Int} {l:List YI} {n:Int}:(J5 f l n).length=l.length:=by unfold J5;simp
theorem Axs {l:List YI} {s:Int}: ∀m,(Iz l s m).length=l.length
 |0=>rfl
 |m+1=>by show(J5 Asn (Iz l s m) (s+m)).length=_;rw[Axr,Axs m]
theorem Amk (w:Bv) (n:Int):D7 (Hr w n)=D7 w:=by
 simp only[D7,Hr,Axr,Axs]
theorem A7f (w:Bv) (n:YI) (hl:w.2.1.length≤4294967296):Aeg w n=some (bif Gt w n.1 then(Hr w n.1,(true,()))else(w,(false,()))):=by
 unfold Aeg Aef
 simp only[Af,Ah,Ac,An]
 rw[Ajx w (by simp only[D7];omega),A7d w n hl]
 simp only[Ai]
 cases hm:Gt w n.1 with
 |false=>rfl
 |true=>
  have hm':=hm
  unfold Gt at hm'
  simp only[Bool.and_eq_true]at hm'
  obtain⟨h1,h2,h3⟩:=Te hm'.1
  have hn:=C6.1 hm'.2.1
  simp only[Bool.not_true,Ap,cond_true]
  rw[w64 (n:=w.1+1) zq0,w64 (n:=n.1-1024) zq0,w64 (n:=n.1-1024+1) zq0,show n.1-1024+1=n.1-1023 by omega]
  rw[show(if w.1+1<n.1-1023 then n.1-1023 else w.1+1)=Abb w.1 n.1 from rfl]
  rw[A5f h1 n.1 (Abb w.1 n.1) w.1 w.2.1 w.1 (Axq w.1 n.1) (by unfold Abb;split<;>omega) (by unfold Abb Axq;split<;>(try split)<;>(try split)<;>omega) zq0 (by unfold Abb;split<;>omega)]
  have hw:=(Ow h1 (s:=Abb w.1 n.1) (by unfold Abb;split<;>omega) (Axq w.1 n.1)).1
  simp only[Ai]
  rw[Al (p:=(0:Int)≤n.1) zq0,Al (p:=(0:Int)≤n.1%1024) zq0,Al (p:=(0:Int)≤n.1%32) zq0,Af2 hw hn.1]
  simp only[Ai,A5]
  unfold Hr
  rw[←A7e h1 h2 hn.1]
  rfl
theorem Axt (w:Bv) (n:YI) (hl:w.2.1.length≤4294967296):Ph w n=some (bif Gt w n.1 then(Hr w n.1,(true,()))else(w,(false,()))):=by
 unfold Ph Adc
 simp only[Af,Ah,Ac,An]
 rw[Axf w (by simp only[D7];omega),Axp w n hl]
 simp only[Ai]
 cases hm:Gt w n.1 with
 |false=>rfl
 |true=>
  have hm':=hm
  unfold Gt at hm'
  simp only[Bool.and_eq_true]at hm'
  obtain⟨h1,h2,h3⟩:=Te hm'.1
  have hn:=C6.1 hm'.2.1
  simp only[Bool.not_true,Ap,cond_true]
  rw[w64 (n:=w.1+1) zq0]
  rw[A5g h1 n.1 (w.1+1) w.1 w.2.1 w.1 (Abc w.1 n.1) zq0 (by unfold Abc;split<;>(try split)<;>omega) zq0 zq0]
  have hw:=(Ow h1 (s:=w.1+1) zq0 (Abc w.1 n.1)).1
  simp only[Ai]
  rw[Al (p:=(0:Int)≤n.1) zq0,Al (p:=(0:Int)≤n.1%1024) zq0,show n.1%1024%32=n.1%32 by omega,Al (p:=(0:Int)≤n.1%32) zq0,Af2 hw hn.1]
  simp only[Ai,A5]
  unfold Hr
  by_cases hg:n.1>w.1
  ·rw[Al hg,Az,if_pos hg];rfl
  ·rw[Bi hg,Ap,if_neg hg];rfl
end
end Go.Proofs.YtmhhajdeafijmaaGreat
