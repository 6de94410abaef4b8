/-
  That the program and the reference answer alike, in plain terms, and that the laws answer true.
-/
import Derived.Test.YtmhhajdeafijmaaGreatL65
namespace Go.Proofs.YtmhhajdeafijmaaGreat
open Go.RowKit
set_option linter.unusedVariables false
set_option linter.unusedSimpArgs false
set_option maxRecDepth 100000
set_option maxHeartbeats 16000000
noncomputable section
def Aa0 {α:Type} (P:α→Prop) (o:Option α):Prop:=∀a,o=some a→P a
theorem Bb9 {α β:Type} {x:Option α} {f:α→Option β} {P:β→Prop} (h: ∀a,Aa0 P (f a)):Aa0 P (ob x f):=fun r hr=>by
 cases x with
 |none=>cases hr
 |some a=>exact h a r hr
theorem Bca {β:Type} {c:Bool} {x y:Option β} {P:β→Prop} (h:Aa0 P x) (k:Aa0 P y):Aa0 P (br c x y):=by cases c<;>assumption
theorem Ba0 {β:Type} {c:Bool} {x:Option β} {P:β→Prop} (h:Aa0 P x):Aa0 P (chk c x):=fun r hr=>h r (Baz hr)
theorem Azy {β:Type} {a:β} {P:β→Prop} (h:P a):Aa0 P (some a):=fun r hr=>by
 simp only[Option.some.injEq]at hr
 exact hr▸h
theorem A87 {β:Type} {P:β→Prop}:Aa0 P none:=fun r hr=>by cases hr
theorem A18 (c:Ab) (n:YI) (f:Aa) (h:Al c≤8388608) (h2:As f≤8388608) (ho:A0 c=true) (hn:0≤n.1∧n.1≤1000000) (hf:Bg f=true) (hk:f.1=2) (hst:c.2.2.2.2.1=1) (hcn:Dt f.2.2.1 c.2.2.2.2.2.1=true):
  ∃fs ns t,Cn n=some t∧Fz c n f=some (Dn c 2 (C6 c.2.1 c.1 f) (C5 0 f.2.2.2.1 (Ei c.2.1 c.2.2.2.2.2.1 f.2.2.2.1 0)) t (clR c) (Dr c),(fs,()),(ns,())):=by
 obtain⟨r,fs,ns,t,t1,t2,_,rfl,_⟩:=Ajw c n f h h2 ho hn hf hk hst hcn
 refine⟨fs,ns,t,t1,?_⟩
 unfold Fz Mb
 simp only[Ag,Ai,Ad,Ao]
 rw[Ea c zq0,Br,Ic,M8]
 simp only[Aj,ho,A6.2 hn,hf,hcn,Bool.not_true,An,Aw,show(f.1==(2:Int))=true by simp[hk],show(c.2.2.2.2.1==(1:Int))=true by simp[hst]]
 rw[t2]
 rfl
theorem Bdb (sn k:List YB) (n:YI) (hs:sn.length=12) (hk:k.length=32) (hn:0≤n.1∧n.1≤1000000): ∃ch p,Fc (C5 0 sn k) n (Be k 1 sn 0 0 8 (Ce 0)).1=some (ch,p,((0:Int),())):=by
 have hrk:(Ce 0).length=4:=by decide
 have hok:D7 k 1 sn 0 0 8 (Ce 0)=true:=by
  unfold D7 Dc
  rw[hrk]
  simp[hs,hk,inR,Ft]
 have hw:wfB (Ce 0):=by unfold Ce;exact A8v _ _ _
 have hF:=Xj hok
 have hne:=Nb k 1 sn 0 0 8 (Ce 0)
 have q1:(Be k 1 sn 0 0 8 (Ce 0)).1.1=8:=by rw[hF.eq]
 have q4:(Be k 1 sn 0 0 8 (Ce 0)).1.2.2.2.1=sn:=by rw[hF.eq]
 have q8:(Be k 1 sn 0 0 8 (Ce 0)).1.2.2.2.2.2.2.2.1=0:=by rw[hF.eq]
 have q9:(Be k 1 sn 0 0 8 (Ce 0)).1.2.2.2.2.2.2.2.2.1=0:=by rw[hF.eq]
 have hun:=Ast hok hw
 have hco:=Aow (r:=0) (.inl rfl) hs hk
 have hep:Dm (Dd 0 k)=true:=Al9 zq4 hk
 have hti:((Bs 1 (Be k 1 sn 0 0 8 (Ce 0)).1).length:Int)≠0:=by
  unfold Bs
  rw[hF.role,hF.ok,show inR (Be k 1 sn 0 0 8 (Ce 0)).1.1 4 8=true by rw[q1];decide]
  simp;omega
 have hwm:Fu ((-1:Int),List.replicate 32 ((0:Int),()),()) 0=true:=by decide
 have hopen: ∃e p,F7 ((0:Int),k,(0:Int),(-1:Int),List.replicate 32 ((0:Int),()),()) ((1:Int),()) (Be k 1 sn 0 0 8 (Ce 0)).1=some (e,p,((0:Int),())):=by
  rw[←Ab1 _ _ _ (by simp[Bj,hk]) zq0]
  unfold Fe Ah5
  simp only[Ag,Ai,Ad]
  rw[Aih _ (by simp[Bj,hk]),Alu _ zq3,Jx _ _ zq0,show Dm ((0:Int),k,(0:Int),(-1:Int),List.replicate 32 ((0:Int),()),())=true from hep]
  simp only[Aj,Bool.not_true,An,q8,q9]
  rw[show((((Bs 1 (Be k 1 sn 0 0 8 (Ce 0)).1).length:Int))==0)=false by simpa using hti,An,show((0:Int) != 0)=false from rfl,An,Azl _ _ zq3,hwm]
  simp only[Aj,cond_true,Bool.not_true,An]
  rw[hun]
  simp only[Aj,Bool.not_true,An]
  exact⟨_,_,rfl⟩
 obtain⟨e,p,hopen⟩:=hopen
 unfold Fc K6
 simp only[Ag,Ai,Ad,Ao]
 rw[Tb _ (by simp[Ar,C5,hs,hk]),Rb,Cb,Lo,Ln,Aao]
 simp only[Aj,hco,A6.2 hn,hF.ok,q1,q4,q8,show inR 8 4 8=true from rfl,Bool.not_true,An]
 rw[show Dt sn (C5 0 sn k).2.1=true from Pu sn]
 simp only[Bool.not_true,An]
 rw[show((0:Int)==(C5 0 sn k).2.2.1)=true from rfl,Aw]
 rw[show F7 ((C5 0 sn k).2.2.1,(C5 0 sn k).2.2.2.1,(C5 0 sn k).2.2.2.2.1,(C5 0 sn k).2.2.2.2.2.1,(C5 0 sn k).2.2.2.2.2.2.1,()) (IntKind.i64.wrap ((1:Int)-(C5 0 sn k).1),()) _=_ from hopen]
 simp only[Aj]
 rw[show((0:Int) != 0)=false from rfl,An]
 exact⟨_,_,rfl⟩
theorem A88 (x:Ab) (n:YI) (sn k:List YB) (h:Al x≤8388608) (ho:A0 x=true) (hst:x.2.2.2.2.1=2) (hch:Bm x=C5 0 sn k) (hs:sn.length=12) (hk:k.length=32) (hw:wfB sn) (hn:0≤n.1∧n.1≤1000000):
  Aa0 (fun r=>r.1.2.2.2.2.1=3∧(clR r.1).1=false) (Fz x n (Be k 1 sn 0 0 8 (Ce 0)).1):=by
 have hrk:(Ce 0).length=4:=by decide
 have hok:D7 k 1 sn 0 0 8 (Ce 0)=true:=by
  unfold D7 Dc
  rw[hrk]
  simp[hs,hk,inR,Ft]
 have hF:=Xj hok
 have hne:=Nb k 1 sn 0 0 8 (Ce 0)
 have q1:(Be k 1 sn 0 0 8 (Ce 0)).1.1=8:=by rw[hF.eq]
 have q4:(Be k 1 sn 0 0 8 (Ce 0)).1.2.2.2.1=sn:=by rw[hF.eq]
 obtain⟨ch,p,hopen⟩:=Bdb sn k n hs hk hn
 rw[←Aov _ n _ (by simp[Ar,C5,hs,hk]) zq0 (by rw[q4];exact hw) hw]at hopen
 obtain⟨_,_,_,_,hR⟩:=Azs ho hst
 have hR:x.2.2.2.2.2.2.2.2.2.2.2.2.2.2.2.2.2.2.2.2.2.2.2.2.2.2.2.2.2.2.2.2.2.2.2.2.1=false:=by
  unfold Gs at hR
  simp only[Bool.and_eq_true,beq_iff_eq]at hR
  exact hR.1
 unfold Fz Mb
 simp only[Ag,Ai,Ad,Ao]
 rw[Ea x zq0,Br,Ic,Rd]
 simp only[Aj,ho,A6.2 hn,hF.ok,q1,show inR 8 4 8=true from rfl,Bool.not_true,An,Aw,show((8:Int)==2)=false from rfl,show(x.2.2.2.2.1==(2:Int))=true by simp[hst]]
 have key:Aa0 (fun r:Ab×((List Aa)×Unit)×((List Ae)×Unit)=>r.1.2.2.2.2.1=3∧(clR r.1).1=false) (C0 x n (Be k 1 sn 0 0 8 (Ce 0)).1):=by
  unfold C0 Q9
  simp only[Ag,Ai,Ad,Ao,Azt]
  rw[Gd x zq0]
  rw[show Jb (Bm x) n (Be k 1 sn 0 0 8 (Ce 0)).1=some (ch,p,((0:Int),())) by rw[hch];exact hopen]
  simp only[Aj,show(x.2.2.2.2.1==(2:Int))=true by simp[hst]]
  rw[show((0:Int) != 0)=false from rfl,An]
  simp only[Aw]
  repeat' (first|exact Azy ⟨rfl,hR⟩|exact Azy ⟨rfl,rfl⟩|exact A87|refine Bb9 fun _=>?_|refine Bca ?_ ?_|refine Ba0 ?_)
 intro r hr
 obtain⟨a,ha,hb⟩:=Bb8 hr
 have:=key a ha
 simp only[Option.some.injEq]at hb
 subst hb
 exact this
end
end Go.Proofs.YtmhhajdeafijmaaGreat
