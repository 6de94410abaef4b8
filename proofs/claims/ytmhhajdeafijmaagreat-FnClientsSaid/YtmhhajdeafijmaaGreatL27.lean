/-
  That the program and the reference answer alike, in plain terms, and that the laws answer true.
-/
import Derived.Test.YtmhhajdeafijmaaGreatL26
namespace Go.Proofs.YtmhhajdeafijmaaGreat
open Go.RowKit
set_option linter.unusedVariables false
set_option linter.unusedSimpArgs false
set_option maxRecDepth 100000
set_option maxHeartbeats 4000000
noncomputable section
theorem So {w:Bs} (h:Ic w=true):Fl w.2.1∧ -1≤w.1∧w.1≤281474976710655:=by
 unfold Ic at h
 simp only[Bool.and_eq_true]at h
 have h1:=Bt.1 h.1
 refine⟨⟨by have:=h.2.1.2;simp at this;omega,fun q x hx=>?_⟩,h1.1,h1.2⟩
 have:=Wx.1 h.2.1.1 q x hx
 omega
def Ga (w:Bs) (n:Int):Bool:=Ic w && (inR n 0 281474976710655 && (decide (n>w.1) || (decide (n≥w.1-1023) && !To w n)))
theorem A9q (w:Bs) (n:YI) (hl:w.2.1.length≤4294967296):Aha w n=some (Ga w n.1,()):=by
 unfold Aha Ag9 Ga
 simp only[Aj,Al,Af]
 rw[A3d w hl,Ch]
 simp only[An]
 cases ho:Ic w with
 |false=>rfl
 |true=>
  obtain⟨h1,h2,h3⟩:=So ho
  cases hn:inR n.1 0 281474976710655 with
  |false=>rfl
  |true=>
   have hn':=Bt.1 hn
   simp only[Bool.not_true,Aw]
   rw[w64 (n:=w.1-1024) zq0,w64 zq0,Aqg w n h1.1 hn'.1,show w.1-1024+1=w.1-1023 by omega]
   cases decide (n.1>w.1)<;>cases decide (n.1≥w.1-1023)<;>rfl
theorem Azv (w:Bs) (n:YI) (hl:w.2.1.length≤4294967296):Wg w n=some (Ga w n.1,()):=by
 unfold Wg Afw Ga Anw Ab9
 simp only[Aj,Al,Af]
 rw[A3e w,Cz]
 simp only[An]
 cases ho:Ic w with
 |false=>rfl
 |true=>
  obtain⟨h1,h2,h3⟩:=So ho
  cases hn:inR n.1 0 281474976710655 with
  |false=>rfl
  |true=>
   have hn':=Bt.1 hn
   simp only[Bool.not_true,Aw]
   rw[w64 (n:=w.1-1024) zq0,w64 zq0,Auo w n h1.1 hn'.1,show w.1-1024+1=w.1-1023 by omega]
   simp only[An]
   by_cases hg:n.1>w.1
   ·rw[Ap hg];rfl
   ·rw[Bg hg]
    by_cases ht:w.1<1024
    ·rw[Ap ht,Az,An]
     simp only
     rw[Ap (p:=n.1≥0) zq0,Ap (p:=n.1≥w.1-1023) zq0];rfl
    ·rw[Bg ht]
     simp only[Aw,An]
     cases decide (n.1≥w.1-1023)<;>rfl
theorem A7y {l:List YI} (h:Fl l) (n s t:Int) (l0:List YI) (t':Int) (m:Nat) (h0:0≤s) (hm:s+m=n∨(m=0∧n≤s)) (hn:n≤281474976710656) (hs:s≤281474976710656):
  A1 Ir (n,s,t,l0,(0:Int),([]:List YI),t',l,())=some (n,t,l0,(0:Int),([]:List YI),t',H9 l s m,()):=by
 have hl:=Cv (B:=Ir) m (fun i=>(n,s+(i:Int),t,l0,(0:Int),([]:List YI),t',H9 l s i,())) (n,t,l0,(0:Int),([]:List YI),t',H9 l s m,())
  (fun i hi=>by
   have hw:=(Nq h h0 i).1
   have hx:=Ain hw (n:=s+(i:Int)) zq0
   unfold Ir
   simp only[Aj,Al,Af,Aq]
   rw[Ap (p:=s+(i:Int)<n) zq0,Az,Ap (p:=(0:Int)≤s+(i:Int)) zq0,Ap (p:=(0:Int)≤(s+(i:Int))%1024) zq0,Ap (p:=(0:Int)≤(s+(i:Int))%32) zq0,hx,w64 (n:=s+(i:Int)+1) zq0]
   simp only[An,Bd]
   rw[show s+((i+1:Nat):Int)=s+(i:Int)+1 by push_cast;omega]
   rfl)
  (by
   unfold Ir
   simp only[Aj,Al,Af,Aq]
   rw[Bg zq0,Aw])
 rw[show s=s+((0:Nat):Int) by simp]at hl
 simpa [H9] using hl
theorem A7z {l:List YI} (h:Fl l) (n s t:Int) (l0:List YI) (t':Int) (m:Nat) (h0:0≤s) (hm:(s+m=n+1∧m≤1024)∨(m=1024∧s+1024≤n+1)∨(m=0∧n<s)) (hn:n≤281474976710656) (hs:s≤281474976710656):
  A1 Ij (n,(0:Int),s,t,l0,(0:Int),([]:List YI),t',l,())=some (n,t,l0,(0:Int),([]:List YI),t',H9 l s m,()):=by
 have hl:=Cv (B:=Ij) m (fun i=>(n,(i:Int),s+(i:Int),t,l0,(0:Int),([]:List YI),t',H9 l s i,())) (n,t,l0,(0:Int),([]:List YI),t',H9 l s m,())
  (fun i hi=>by
   have hw:=(Nq h h0 i).1
   have hx:=Ain hw (n:=s+(i:Int)) zq0
   unfold Ij
   simp only[Aj,Al,Af,Aq]
   rw[Ap (p:=s+(i:Int)≤n) zq0,Az,Ap (p:=(i:Int)<1024) zq0,Az,Ap (p:=(0:Int)≤s+(i:Int)) zq0,Ap (p:=(0:Int)≤(s+(i:Int))%1024) zq0,show(s+(i:Int))%1024%32=(s+(i:Int))%32 by omega,Ap (p:=(0:Int)≤(s+(i:Int))%32) zq0,hx,w64 (n:=s+(i:Int)+1) zq0,w64 (n:=(i:Int)+1) zq0]
   simp only[An,Bd]
   rw[show s+((i+1:Nat):Int)=s+(i:Int)+1 by push_cast;omega]
   rfl)
  (by
   unfold Ij
   simp only[Aj,Al,Af,Aq]
   by_cases hle:s+(m:Int)≤n
   ·rw[Ap hle,Az,Bg (p:=(m:Int)<1024) zq0,Aw]
   ·rw[Bg hle,Aw])
 rw[show s=s+((0:Nat):Int) by simp]at hl
 simpa [H9] using hl
def Azw (t n:Int):Nat:=if n≤t then 0 else if n≤t+1024 then(n-t-1).toNat else 1023
def Ado (t n:Int):Int:=if t+1<n-1023 then n-1023 else t+1
def Adp (t n:Int):Nat:=if n≤t then 0 else if n≤t+1024 then(n-t).toNat else 1024
def Hd (w:Bs) (n:Int):Bs:=(if w.1<n then n else w.1,Jk Aad (H9 w.2.1 (w.1+1) (Adp w.1 n)) n,())
theorem A9r {l:List YI} (h:Fl l) {t n:Int} (ht: -1≤t) (hn:0≤n):Jk Aad (H9 l (Ado t n) (Azw t n)) n=Jk Aad (H9 l (t+1) (Adp t n)) n:=by
 refine Bch h (by unfold Ado;split<;>omega) zq0 hn fun r hr hne=>?_
 unfold Azw Adp Ado
 by_cases h1:n≤t
 ·rw[if_pos h1,if_pos h1]
  exact⟨fun _ k hk=>by omega,fun _ k hk=>by omega⟩
 ·rw[if_neg h1,if_neg h1]
  by_cases h2:n≤t+1024
  ·rw[if_pos h2,if_pos h2,if_neg zq0]
   constructor
   ·intro hk k hk2
    rcases Nat.lt_or_ge k (n-t-1).toNat with hh|hh
    ·exact hk k hh
    ·have:t+1+(k:Int)=n:=by omega
     rw[this];exact hne
   ·intro hk k hk2
    exact hk k zq0
  ·rw[if_neg h2,if_neg h2,if_pos zq0]
   constructor
   ·intro hk
    exact(hk (((r:Int)-(n-1023))%1024).toNat zq0 zq0).elim
   ·intro hk
    exact(hk (((r:Int)-(t+1))%1024).toNat zq0 zq0).elim
theorem Azx {f:Int→Int→Int} {l:List YI} {n:Int}:(Jk f l n).length=l.length:=by unfold Jk;simp
theorem Azy {l:List YI} {s:Int}: ∀m,(H9 l s m).length=l.length
 |0=>rfl
 |m+1=>by show(Jk Aur (H9 l s m) (s+m)).length=_;rw[Azx,Azy m]
theorem Aoz (w:Bs) (n:Int):Ds (Hd w n)=Ds w:=by
 simp only[Ds,Hd,Azx,Azy]
theorem A9s (w:Bs) (n:YI) (hl:w.2.1.length≤4294967296):Ahc w n=some (bif Ga w n.1 then(Hd w n.1,(true,()))else(w,(false,()))):=by
 unfold Ahc Ahb
 simp only[Aj,Al,Af,Aq]
 rw[Amc w (by simp only[Ds];omega),A9q w n hl]
 simp only[An]
 cases hm:Ga w n.1 with
 |false=>rfl
 |true=>
  have hm':=hm
  unfold Ga at hm'
  simp only[Bool.and_eq_true]at hm'
  obtain⟨h1,h2,h3⟩:=So hm'.1
  have hn:=Bt.1 hm'.2.1
  simp only[Bool.not_true,Aw,cond_true]
  rw[w64 (n:=w.1+1) zq0,w64 (n:=n.1-1024) zq0,w64 (n:=n.1-1024+1) zq0,show n.1-1024+1=n.1-1023 by omega]
  rw[show(if w.1+1<n.1-1023 then n.1-1023 else w.1+1)=Ado w.1 n.1 from rfl]
  rw[A7y h1 n.1 (Ado w.1 n.1) w.1 w.2.1 w.1 (Azw w.1 n.1) (by unfold Ado;split<;>omega) (by unfold Ado Azw;split<;>(try split)<;>(try split)<;>omega) zq0 (by unfold Ado;split<;>omega)]
  have hw:=(Nq h1 (s:=Ado w.1 n.1) (by unfold Ado;split<;>omega) (Azw w.1 n.1)).1
  simp only[An]
  rw[Ap (p:=(0:Int)≤n.1) zq0,Ap (p:=(0:Int)≤n.1%1024) zq0,Ap (p:=(0:Int)≤n.1%32) zq0,Ain hw hn.1]
  simp only[An,Bd]
  unfold Hd
  rw[←A9r h1 h2 hn.1]
  rfl
theorem Azz (w:Bs) (n:YI) (hl:w.2.1.length≤4294967296):Ob w n=some (bif Ga w n.1 then(Hd w n.1,(true,()))else(w,(false,()))):=by
 unfold Ob Af1
 simp only[Aj,Al,Af,Aq]
 rw[Azn w (by simp only[Ds];omega),Azv w n hl]
 simp only[An]
 cases hm:Ga w n.1 with
 |false=>rfl
 |true=>
  have hm':=hm
  unfold Ga at hm'
  simp only[Bool.and_eq_true]at hm'
  obtain⟨h1,h2,h3⟩:=So hm'.1
  have hn:=Bt.1 hm'.2.1
  simp only[Bool.not_true,Aw,cond_true]
  rw[w64 (n:=w.1+1) zq0]
  rw[A7z h1 n.1 (w.1+1) w.1 w.2.1 w.1 (Adp w.1 n.1) zq0 (by unfold Adp;split<;>(try split)<;>omega) zq0 zq0]
  have hw:=(Nq h1 (s:=w.1+1) zq0 (Adp w.1 n.1)).1
  simp only[An]
  rw[Ap (p:=(0:Int)≤n.1) zq0,Ap (p:=(0:Int)≤n.1%1024) zq0,show n.1%1024%32=n.1%32 by omega,Ap (p:=(0:Int)≤n.1%32) zq0,Ain hw hn.1]
  simp only[An,Bd]
  unfold Hd
  by_cases hg:n.1>w.1
  ·rw[Ap hg,Az,if_pos hg];rfl
  ·rw[Bg hg,Aw,if_neg hg];rfl
end
end Go.Proofs.YtmhhajdeafijmaaGreat
