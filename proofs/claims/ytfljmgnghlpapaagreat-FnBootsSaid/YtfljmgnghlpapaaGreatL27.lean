/-
  That the program and the reference answer alike, in plain terms, and that the laws answer true.
-/
import Derived.Test.YtfljmgnghlpapaaGreatL26
namespace Go.Proofs.YtfljmgnghlpapaaGreat
open Go.RowKit
set_option linter.unusedVariables false
set_option linter.unusedSimpArgs false
set_option maxRecDepth 100000
set_option maxHeartbeats 4000000
noncomputable section
theorem Ayk {w:Cj} (h:Vu w=true):R0 w.2.1∧ -1≤w.1∧w.1≤281474976710655:=by
 unfold Vu at h
 simp only[Bool.and_eq_true]at h
 have h1:=Cu.1 h.1
 refine⟨⟨by have:=h.2.1.2;simp at this;omega,fun q x hx=>?_⟩,h1.1,h1.2⟩
 have:=At7.1 h.2.1.1 q x hx
 omega
def Aej (w:Cj) (n:Int):Bool:=Vu w && (inR n 0 281474976710655 && (decide (n>w.1) || (decide (n≥w.1-1023) && !Ac9 w n)))
theorem Bdm (w:Cj) (n:YI) (hl:w.2.1.length≤4294967296):Ahe w n=some (Aej w n.1,()):=by
 unfold Ahe Afp Aej Apm Abm
 simp only[Ac,Ae,Ab]
 rw[A6j w,Df]
 simp only[Ai]
 cases ho:Vu w with
 |false=>rfl
 |true=>
  obtain⟨h1,h2,h3⟩:=Ayk ho
  cases hn:inR n.1 0 281474976710655 with
  |false=>rfl
  |true=>
   have hn':=Cu.1 hn
   simp only[Bool.not_true,Au]
   rw[w64 (n:=w.1-1024) zq0,w64 zq0,Av2 w n h1.1 hn'.1,show w.1-1024+1=w.1-1023 by omega]
   simp only[Ai]
   by_cases hg:n.1>w.1
   ·rw[An hg];rfl
   ·rw[Bj hg]
    by_cases ht:w.1<1024
    ·rw[An ht,A4,Ai]
     simp only
     rw[An (p:=n.1≥0) zq0,An (p:=n.1≥w.1-1023) zq0];rfl
    ·rw[Bj ht]
     simp only[Au,Ai]
     cases decide (n.1≥w.1-1023)<;>rfl
theorem Bbc {l:List YI} (h:R0 l) (n s t:Int) (l0:List YI) (t':Int) (m:Nat) (h0:0≤s) (hm:(s+m=n+1∧m≤1024)∨(m=1024∧s+1024≤n+1)∨(m=0∧n<s)) (hn:n≤281474976710656) (hs:s≤281474976710656):
  As Jb (n,(0:Int),s,t,l0,(0:Int),([]:List YI),t',l,())=some (n,t,l0,(0:Int),([]:List YI),t',Uz l s m,()):=by
 have hl:=B8 (B:=Jb) m (fun i=>(n,(i:Int),s+(i:Int),t,l0,(0:Int),([]:List YI),t',Uz l s i,())) (n,t,l0,(0:Int),([]:List YI),t',Uz l s m,())
  (fun i hi=>by
   have hw:=(Awd h h0 i).1
   have hx:=A2u hw (n:=s+(i:Int)) zq0
   unfold Jb
   simp only[Ac,Ae,Ab,Al]
   rw[An (p:=s+(i:Int)≤n) zq0,A4,An (p:=(i:Int)<1024) zq0,A4,An (p:=(0:Int)≤s+(i:Int)) zq0,An (p:=(0:Int)≤(s+(i:Int))%1024) zq0,show(s+(i:Int))%1024%32=(s+(i:Int))%32 by omega,An (p:=(0:Int)≤(s+(i:Int))%32) zq0,hx,w64 (n:=s+(i:Int)+1) zq0,w64 (n:=(i:Int)+1) zq0]
   simp only[Ai,A8]
   rw[show s+((i+1:Nat):Int)=s+(i:Int)+1 by push_cast;omega]
   rfl)
  (by
   unfold Jb
   simp only[Ac,Ae,Ab,Al]
   by_cases hle:s+(m:Int)≤n
   ·rw[An hle,A4,Bj (p:=(m:Int)<1024) zq0,Au]
   ·rw[Bj hle,Au])
 rw[show s=s+((0:Nat):Int) by simp]at hl
 simpa [Uz] using hl
def A8p (t n:Int):Nat:=if n≤t then 0 else if n≤t+1024 then(n-t).toNat else 1024
def Amy (w:Cj) (n:Int):Cj:=(if w.1<n then n else w.1,Ta Bh2 (Uz w.2.1 (w.1+1) (A8p w.1 n)) n,())
theorem A2v {f:Int→Int→Int} {l:List YI} {n:Int}:(Ta f l n).length=l.length:=by unfold Ta;simp
theorem A2w {l:List YI} {s:Int}: ∀m,(Uz l s m).length=l.length
 |0=>rfl
 |m+1=>by show(Ta Awb (Uz l s m) (s+m)).length=_;rw[A2v,A2w m]
theorem A5o (w:Cj) (n:Int):E6 (Amy w n)=E6 w:=by
 simp only[E6,Amy,A2v,A2w]
theorem Bdn (w:Cj) (n:YI) (hl:w.2.1.length≤4294967296):Vk w n=some (bif Aej w n.1 then(Amy w n.1,(true,()))else(w,(false,()))):=by
 unfold Vk Afq
 simp only[Ac,Ae,Ab,Al]
 rw[A2g w (by simp only[E6];omega),Bdm w n hl]
 simp only[Ai]
 cases hm:Aej w n.1 with
 |false=>rfl
 |true=>
  have hm':=hm
  unfold Aej at hm'
  simp only[Bool.and_eq_true]at hm'
  obtain⟨h1,h2,h3⟩:=Ayk hm'.1
  have hn:=Cu.1 hm'.2.1
  simp only[Bool.not_true,Au,cond_true]
  rw[w64 (n:=w.1+1) zq0]
  rw[Bbc h1 n.1 (w.1+1) w.1 w.2.1 w.1 (A8p w.1 n.1) zq0 (by unfold A8p;split<;>(try split)<;>omega) zq0 zq0]
  have hw:=(Awd h1 (s:=w.1+1) zq0 (A8p w.1 n.1)).1
  simp only[Ai]
  rw[An (p:=(0:Int)≤n.1) zq0,An (p:=(0:Int)≤n.1%1024) zq0,show n.1%1024%32=n.1%32 by omega,An (p:=(0:Int)≤n.1%32) zq0,A2u hw hn.1]
  simp only[Ai,A8]
  unfold Amy
  by_cases hg:n.1>w.1
  ·rw[An hg,A4,if_pos hg];rfl
  ·rw[Bj hg,Au,if_neg hg];rfl
end
end Go.Proofs.YtfljmgnghlpapaaGreat
