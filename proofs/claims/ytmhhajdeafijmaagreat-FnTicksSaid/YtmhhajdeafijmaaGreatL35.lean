/-
  That the program and the reference answer alike, in plain terms, and that the laws answer true.
-/
import Derived.Test.YtmhhajdeafijmaaGreatL34
namespace Go.Proofs.YtmhhajdeafijmaaGreat
open Go.RowKit
set_option linter.unusedVariables false
set_option linter.unusedSimpArgs false
set_option maxRecDepth 100000
set_option maxHeartbeats 8000000
noncomputable section
theorem Bab {c:Ab} (h:A0 c=true):0≤c.2.2.2.2.1∧c.2.2.2.2.1≤3:=by
 unfold A0 at h
 cases h0:(c.2.2.2.2.1==(0:Int))with
 |true=>have:=eq_of_beq h0;omega
 |false=>
 cases h1:(c.2.2.2.2.1==(1:Int))with
 |true=>have:=eq_of_beq h1;omega
 |false=>
 cases h2:(c.2.2.2.2.1==(2:Int))with
 |true=>have:=eq_of_beq h2;omega
 |false=>
 cases h3:(c.2.2.2.2.1==(3:Int))with
 |true=>have:=eq_of_beq h3;omega
 |false=>
 simp[h0,h1,h2,h3]at h
theorem Amb {p a b:List YB} (k:Gx (p,())=true) (h1:a.length=12) (h2:b.length=12):(Ei p a b 0).length=32:=by
 have hroot:(Fl p a b).length=32:=by
  unfold Fl
  have hp:inR (p.length:Int) 1 32=true:=k
  rw[if_pos ⟨hp,h1,h2⟩]
  have:=A6.1 hp
  exact Rg _ _ zq1 zq0
 have hfirst:(Eu (Fl p a b)).length=32:=by
  unfold Eu
  rw[if_pos hroot]
  exact Tg zq4 zq0
 unfold Ei
 rw[if_neg zq0]
 unfold Aav
 rw[if_pos zq0]
 exact hfirst
theorem Ajx (c:Ab) (n:YI) (f:Aa) (h:Al c≤8388608) (h2:As f≤8388608) (w1:wfB f.2.2.2.1) (w2:wfB (Bm c).2.1):
  ∃r fs ns,Fz c n f=some (r,(fs,()),(ns,()))∧Ez c n f=some (r,(fs,()),(ns,()))∧ClH c f r fs ns:=by
 have none: ∃r fs ns,some (c,(([]:List Aa),()),(([]:List Ae),()))=some (r,(fs,()),(ns,()))∧some (c,(([]:List Aa),()),(([]:List Ae),()))=some (r,(fs,()),(ns,()))∧ClH c f r fs ns:=⟨c,[],[],rfl,rfl,.none⟩
 have hcn:c.2.2.2.2.2.1.length≤Al c:=by simp only[Al];omega
 have hfs:f.2.2.2.1.length≤As f:=by simp only[As];omega
 unfold Fz Mb Ez Qn
 simp only[Ag,Ai,Ad,Ao,S4,S5,H7]
 rw[Gd c zq0,Al4 c zq0,Ea c zq0,Aik c,Br,Cb,Ic,Lo,Rd,Ln,M8,Aao]
 simp only[Aj]
 cases ho:A0 c with
 |false=>exact none
 |true=>
 simp only[Bool.not_true,An]
 cases hn:inR n.1 0 1000000 with
 |false=>exact none
 |true=>
 simp only[Bool.not_true,An]
 cases hf:Bg f with
 |false=>exact none
 |true=>
 simp only[Bool.not_true,An]
 have hn':=A6.1 hn
 have seald: ∃r fs ns,br (inR f.1 4 8) (br (c.2.2.2.2.1==(2:Int)) (ob (C0 c n f) fun r=>some (r.1,r.2.1,r.2.2)) (br (c.2.2.2.2.1==(3:Int)) (ob (C0 c n f) fun r=>some (r.1,r.2.1,r.2.2)) (some (c,(([]:List Aa),()),(([]:List Ae),()))))) (some (c,(([]:List Aa),()),(([]:List Ae),())))=some (r,(fs,()),(ns,()))∧
   br (!inR f.1 4 8) (some (c,(([]:List Aa),()),(([]:List Ae),()))) (br (decide (c.2.2.2.2.1<(2:Int))) (some (c,(([]:List Aa),()),(([]:List Ae),()))) (H6 c n f c).val)=some (r,(fs,()),(ns,()))∧ClH c f r fs ns:=by
  cases hs:inR f.1 4 8 with
  |false=>exact none
  |true=>
  simp only[Bool.not_true,An,Aw]
  by_cases hst:c.2.2.2.2.1=2∨c.2.2.2.2.1=3
  ·obtain⟨r,fs,ns,a1,a2,a3⟩:=Axf c n f h h2 ho hst w1 w2
   rw[a1,a2,A8 (p:=c.2.2.2.2.1<(2:Int)) zq0]
   simp only[Aj,An]
   rcases hst with hst|hst
   ·rw[hst];exact⟨r,fs,ns,rfl,rfl,a3⟩
   ·rw[hst];exact⟨r,fs,ns,rfl,rfl,a3⟩
  ·have hr:=Bab ho
   rw[Am (p:=c.2.2.2.2.1<(2:Int)) zq0,show(c.2.2.2.2.1==(2:Int))=false by simp;omega,show(c.2.2.2.2.1==(3:Int))=false by simp;omega]
   exact none
 by_cases hk:f.1=2
 ·have hk':(f.1==(2:Int))=true:=by simpa using hk
  rw[hk',Aw,Aw]
  by_cases hst:c.2.2.2.2.1=1
  ·have hst':(c.2.2.2.2.1==(1:Int))=true:=by simpa using hst
   rw[hst',Aw,Aw]
   cases hcc:Dt f.2.2.1 c.2.2.2.2.2.1 with
   |false=>
    rw[An,An]
    exact seald
   |true=>
    rw[Aw,Aw]
    obtain⟨r,fs,ns,t,t1,t2,t3,t4,t5,t6⟩:=Ajw c n f h h2 ho hn' hf hk hst hcc
    obtain⟨k1,k2,k3⟩:=Og ho
    obtain⟨s1,s2,s3⟩:=A7a ho hst
    obtain⟨a1,a2,a3,a4,a5,a6,a7,a8,a9,a10⟩:=Lp hf hk
    obtain⟨g1,g2,g3⟩:=Ajv c.2.1 c.1 f k2 k1 hf hk
    have hek:=Amb (p:=c.2.1) (a:=c.2.2.2.2.2.1) (b:=f.2.2.2.1) k2 s1 a2
    obtain⟨_,n1⟩:=Ad6 0 f.2.2.2.1 (Ei c.2.1 c.2.2.2.2.2.1 f.2.2.2.1 0) (.inl rfl) a2 hek
    have hpl:=T9 (id:=c.1) (cn:=f.2.2.1) (sn:=f.2.2.2.1) (tick:=f.2.2.2.2.1) (ck:=f.2.2.2.2.2.1)
    have hpb:(Du c.1 f.2.2.1 f.2.2.2.1 f.2.2.2.2.1 f.2.2.2.2.2.1).length≤46:=by rw[hpl];cases Hq c.1 f.2.2.1 f.2.2.2.1 f.2.2.2.2.1 f.2.2.2.2.2.1<;>simp
    have hfk:=Ama c.2.1
    have hpf:=Av5 c.2.1 c.1 f.2.2.1 f.2.2.2.1 f.2.2.2.2.1 f.2.2.2.2.2.1
    rw[t2,Aj]
    refine⟨r,fs,ns,rfl,?_,t3⟩
    rw[g2,A4r,t1]
    simp only[Aj]
    rw[n1,Aoy]
    simp only[Aj]
    rw[show Kb ((C6 c.2.1 c.1 f).2.1,()) ((C6 c.2.1 c.1 f).2.2.1,()) ((C6 c.2.1 c.1 f).2.2.2.1,()) ((C6 c.2.1 c.1 f).2.2.2.2.1,()) ((C6 c.2.1 c.1 f).2.2.2.2.2.1,())=some (Du c.1 f.2.2.1 f.2.2.2.1 f.2.2.2.2.1 f.2.2.2.2.2.1,())from Ao0 _ _ _ _ _]
    simp only[Aj]
    rw[A62 _ _ zq0 zq0,Aqg _ (by simp only[As,C6,List.length_nil];omega)]
    simp only[Aj]
    rw[t4,t5,t6]
    simp only[List.length_nil,Nat.zero_add,List.nil_append,List.length_cons,List.length_append,Nat.reduceAdd,Nat.reduceLeDiff,decide_true,A5]
    rw[Am (p:=c.2.2.2.2.2.1.length≤4294967296) zq0,Am (p:=f.2.2.2.1.length≤4294967296) zq0,A5,A5]
    rfl
  ·have hst':(c.2.2.2.2.1==(1:Int))=false:=by simpa using hst
   rw[hst',An,An]
   exact seald
 ·have hk':(f.1==(2:Int))=false:=by simpa using hk
  rw[hk',An,An]
  exact seald
end
end Go.Proofs.YtmhhajdeafijmaaGreat
