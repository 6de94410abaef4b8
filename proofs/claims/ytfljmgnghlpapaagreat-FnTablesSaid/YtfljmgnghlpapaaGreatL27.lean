/-
  That the program and the reference answer alike, in plain terms, and that the laws answer true.
-/
import Derived.Test.YtfljmgnghlpapaaGreatL26
namespace Go.Proofs.YtfljmgnghlpapaaGreat
open Go.RowKit
set_option linter.unusedVariables false
set_option linter.unusedSimpArgs false
set_option maxRecDepth 100000
set_option maxHeartbeats 4000000
noncomputable section
theorem Alg {w:Bs} (h:P8 w=true):Nd w.2.1∧ -1≤w.1∧w.1≤281474976710655:=by
 unfold P8 at h
 simp only[Bool.and_eq_true]at h
 have h1:=E8.1 h.1
 refine⟨⟨by have:=h.2.1.2;simp at this;omega,fun q x hx=>?_⟩,h1.1,h1.2⟩
 have:=Ah1.1 h.2.1.1 q x hx
 omega
def Vt (w:Bs) (n:Int):Bool:=P8 w && (inR n 0 281474976710655 && (decide (n>w.1) || (decide (n≥w.1-1023) && !U8 w n)))
theorem Awt (w:Bs) (n:YI) (hl:w.2.1.length≤4294967296):Xs w n=some (Vt w n.1,()):=by
 unfold Xs Ws Vt Aeu T2
 simp only[Ah,Ai,Ab]
 rw[Arh w,Dd]
 simp only[Ak]
 cases ho:P8 w with
 |false=>rfl
 |true=>
  obtain⟨h1,h2,h3⟩:=Alg ho
  cases hn:inR n.1 0 281474976710655 with
  |false=>rfl
  |true=>
   have hn':=E8.1 hn
   simp only[Bool.not_true,A1]
   rw[w64 (n:=w.1-1024) zq0,w64 zq0,Ajj w n h1.1 hn'.1,show w.1-1024+1=w.1-1023 by omega]
   simp only[Ak]
   by_cases hg:n.1>w.1
   ·rw[Ao hg];rfl
   ·rw[Bn hg]
    by_cases ht:w.1<1024
    ·rw[Ao ht,A9,Ak]
     simp only
     rw[Ao (p:=n.1≥0) zq0,Ao (p:=n.1≥w.1-1023) zq0];rfl
    ·rw[Bn ht]
     simp only[A1,Ak]
     cases decide (n.1≥w.1-1023)<;>rfl
theorem Au6 {l:List YI} (h:Nd l) (n s t:Int) (l0:List YI) (t':Int) (m:Nat) (h0:0≤s) (hm:(s+m=n+1∧m≤1024)∨(m=1024∧s+1024≤n+1)∨(m=0∧n<s)) (hn:n≤281474976710656) (hs:s≤281474976710656):
  As G3 (n,(0:Int),s,t,l0,(0:Int),([]:List YI),t',l,())=some (n,t,l0,(0:Int),([]:List YI),t',Pi l s m,()):=by
 have hl:=Co (B:=G3) m (fun i=>(n,(i:Int),s+(i:Int),t,l0,(0:Int),([]:List YI),t',Pi l s i,())) (n,t,l0,(0:Int),([]:List YI),t',Pi l s m,())
  (fun i hi=>by
   have hw:=(Ajq h h0 i).1
   have hx:=Aoe hw (n:=s+(i:Int)) zq0
   unfold G3
   simp only[Ah,Ai,Ab,Am]
   rw[Ao (p:=s+(i:Int)≤n) zq0,A9,Ao (p:=(i:Int)<1024) zq0,A9,Ao (p:=(0:Int)≤s+(i:Int)) zq0,Ao (p:=(0:Int)≤(s+(i:Int))%1024) zq0,show(s+(i:Int))%1024%32=(s+(i:Int))%32 by omega,Ao (p:=(0:Int)≤(s+(i:Int))%32) zq0,hx,w64 (n:=s+(i:Int)+1) zq0,w64 (n:=(i:Int)+1) zq0]
   simp only[Ak,Bd]
   rw[show s+((i+1:Nat):Int)=s+(i:Int)+1 by push_cast;omega]
   rfl)
  (by
   unfold G3
   simp only[Ah,Ai,Ab,Am]
   by_cases hle:s+(m:Int)≤n
   ·rw[Ao hle,A9,Bn (p:=(m:Int)<1024) zq0,A1]
   ·rw[Bn hle,A1])
 rw[show s=s+((0:Nat):Int) by simp]at hl
 simpa [Pi] using hl
def As6 (t n:Int):Nat:=if n≤t then 0 else if n≤t+1024 then(n-t).toNat else 1024
def Acw (w:Bs) (n:Int):Bs:=(if w.1<n then n else w.1,Oc A0r (Pi w.2.1 (w.1+1) (As6 w.1 n)) n,())
theorem Aof {f:Int→Int→Int} {l:List YI} {n:Int}:(Oc f l n).length=l.length:=by unfold Oc;simp
theorem Aog {l:List YI} {s:Int}: ∀m,(Pi l s m).length=l.length
 |0=>rfl
 |m+1=>by show(Oc Ajo (Pi l s m) (s+m)).length=_;rw[Aof,Aog m]
theorem Aqo (w:Bs) (n:Int):Dz (Acw w n)=Dz w:=by
 simp only[Dz,Acw,Aof,Aog]
theorem Awu (w:Bs) (n:YI) (hl:w.2.1.length≤4294967296):P0 w n=some (bif Vt w n.1 then(Acw w n.1,(true,()))else(w,(false,()))):=by
 unfold P0 Wt
 simp only[Ah,Ai,Ab,Am]
 rw[An6 w (by simp only[Dz];omega),Awt w n hl]
 simp only[Ak]
 cases hm:Vt w n.1 with
 |false=>rfl
 |true=>
  have hm':=hm
  unfold Vt at hm'
  simp only[Bool.and_eq_true]at hm'
  obtain⟨h1,h2,h3⟩:=Alg hm'.1
  have hn:=E8.1 hm'.2.1
  simp only[Bool.not_true,A1,cond_true]
  rw[w64 (n:=w.1+1) zq0]
  rw[Au6 h1 n.1 (w.1+1) w.1 w.2.1 w.1 (As6 w.1 n.1) zq0 (by unfold As6;split<;>(try split)<;>omega) zq0 zq0]
  have hw:=(Ajq h1 (s:=w.1+1) zq0 (As6 w.1 n.1)).1
  simp only[Ak]
  rw[Ao (p:=(0:Int)≤n.1) zq0,Ao (p:=(0:Int)≤n.1%1024) zq0,show n.1%1024%32=n.1%32 by omega,Ao (p:=(0:Int)≤n.1%32) zq0,Aoe hw hn.1]
  simp only[Ak,Bd]
  unfold Acw
  by_cases hg:n.1>w.1
  ·rw[Ao hg,A9,if_pos hg];rfl
  ·rw[Bn hg,A1,if_neg hg];rfl
end
end Go.Proofs.YtfljmgnghlpapaaGreat
